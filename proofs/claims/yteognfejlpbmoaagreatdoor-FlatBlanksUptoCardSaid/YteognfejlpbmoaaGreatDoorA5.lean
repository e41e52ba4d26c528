/-
  What the functions of the program answer, at every text and every question. No conditions.
-/
import Derived.Test.YteognfejlpbmoaaGreatDoorA4
import Derived.Test.YteognfejlpbmoaaGreatDoorA1
set_option linter.unusedSimpArgs false
set_option linter.unusedVariables false
set_option maxRecDepth 100000
noncomputable section
namespace Go.Ab.Sh
open Go Go.Ab Go.Lib
variable {B B' N R bytes e j n rb rc sz:Nat} {S l r:Str} {acc x y:Value} {c:UInt8} {cs dv:List Value} {k:Bool} {m' m0 m3:Mem} {o oc:AObj} {s ty:Option Nat} {t:Tn} {ts:List Tn} {ws:List Str}
inductive LR:List Ln->List Ln->Prop where
 | nil:LR [] []
 | cons (x y:Ln) (l l':List Ln) (hi:x.ind=y.ind) (hw:x.ws.map (·.1)=y.ws.map (·.1)) (hl:x.ln + 2 <= y.ln) (t:LR l l'):LR (x :: l) (y :: l')
theorem Xp9 (i:Nat) (at':Int) (k:Nat):X11 (insB i at') k=[]:=by
 unfold insB;split
 ·rw [X2i,show rowP Xv7=none from rfl];dsimp only;rw [X2i,show rowP [32,32,32]=none from rfl];rfl
 ·rfl
theorem Xnq (at':Int):∀ (rows:List Str) (j i i':Nat),i + 2 <= i'->LR (X11 rows i) (X11 (X23 at' rows j) i')
 | [],j,i,i',h=>.nil
 | r :: l,j,i,i',h=>by
  have hr:=Xxx r;have ih:=Xnq at' l (j + 1) (i + 1) (i' + 1 + (insB j at').length) (by omega);have e:X11 (insB j at' ++ X23 at' l (j + 1)) (i' + 1)=X11 (X23 at' l (j + 1)) (i' + 1 + (insB j at').length):=by
   rw [X5b,Xp9]; rfl
  show LR (X11 (r :: l) i) (X11 (rowB r :: (insB j at' ++ X23 at' l (j + 1))) i');rw [X2i,X2i,e];cases hp:rowP r with
  | none =>
   rw [hp] at hr;have hr:rowP (rowB r)=none:=hr;rw [hr];exact ih
  | some x =>
   rw [hp] at hr;obtain ⟨y,h1,h2,h3⟩:=hr;rw [h1];exact .cons _ _ _ _ h2.symm h3.symm (by show i + 1 + 2 <= i' + 1; omega) ih
theorem Xtv:∀ {l l':List Ln},LR l l'->∀ {s s':PSt},RS s s'->(∀ e,X3h l s=.error e->∃ e',X3h l' s'=.error e'/\e'.2.2=e.2.2/\e.1 + 2 <= e'.1)/\(∀ S,X3h l s=.ok S->∃ S',X3h l' s'=.ok S'/\RS S S')
 | _,_,.nil,s,s',h=>⟨fun e he=>(by cases he),fun S hS=>by cases hS; exact ⟨s',rfl,h⟩⟩
 | _,_,.cons x y l l' hi hw hl t,s,s',h=>by
  have hx:RX (cxN x) (cxN y):=hw;have hst:RS (X2m x s) (X2m y s'):=by
   unfold X2m;rw [hi];exact Xyh hx (h.at ⟨rfl,rfl⟩) _
  have he:=hst.2.2.2.2;rw [X79,X79];cases h1:(X2m x s).cu.er with
  | some a =>
   rw [h1] at he;cases h2:(X2m y s').cu.er with
   | none=>rw [h2] at he; cases he
   | some b =>
    rw [h2] at he;have he:a.2=b.2:=Option.some.inj he;exact ⟨fun e q=>(by grind),fun S q=>by cases q⟩
  | none =>
   rw [h1] at he;cases h2:(X2m y s').cu.er with
   | some b=>rw [h2] at he; cases he
   | none=>exact Xtv t hst
def badL (c:UInt8):Prop:=c.toNat < 32\/126 < c.toNat
theorem Xkd:∀ (w:Str) (l k:Nat),l <= 4096->(10:UInt8) ∉ w->(∀ c ∈ w,¬ badL c)->(chk w l k).2.2=0
 | [],l,k,_,_,_=>rfl
 | a :: w,l,k,hl,hn,hg=>by
  rw [X44,if_neg (by omega),if_neg (fun q=>hn (by grind [toNat10.mp,List.mem_cons_self])),if_neg (show ¬ (a.toNat < 32\/126 < a.toNat) from hg a (List.mem_cons_self ..))];exact Xkd w l (k + 1) hl (fun q=>hn (List.mem_cons_of_mem _ q)) fun c hc=>hg c (List.mem_cons_of_mem _ hc)
theorem Xm1:∀ (w:Str) (l k:Nat),l <= 4096->(10:UInt8) ∉ w->(∃ c ∈ w,badL c)->(chk w l k).2.2=70/\(chk w l k).1=l
 | [],l,k,_,_,⟨c,hc,_⟩=>by cases hc
 | a :: w,l,k,hl,hn,hb=>by
  rw [X44,if_neg (by omega),if_neg (fun q=>hn (by grind [toNat10.mp,List.mem_cons_self]))];by_cases h:a.toNat < 32\/126 < a.toNat
  ·grind
  ·rw [if_neg h];refine Xm1 w l (k + 1) hl (fun q=>hn (List.mem_cons_of_mem _ q)) ?_;obtain ⟨c,hc,hb⟩:=hb;rcases List.mem_cons.mp hc with rfl | e
   ·exact absurd hb h
   ·grind
def Xad (w:Str):Prop:=(10:UInt8) ∉ w/\∀ c ∈ w,¬ badL c
theorem Xbr:∀ (rows:List Str) (l:Nat),l + rows.length <= 4097->(∀ w ∈ rows,Xad w)->∀ k,(chk (ends rows) l k).2.2=0
 | [],l,_,_,k=>rfl
 | r :: rows,l,hl,hg,k=>by
  rw [List.length_cons] at hl;have h:=hg r (List.mem_cons_self ..);rw [X29,X37,if_pos (Xkd r l k (by omega) h.1 h.2),X44,X4t,List.count_eq_zero_of_not_mem h.1,if_neg (by omega),if_pos (show UInt8.toNat 10=10 from rfl)];exact Xbr rows (l + 0 + 1) (by omega) (fun w hw=>hg w (List.mem_cons_of_mem _ hw)) 1
theorem Xbc (A:List Str) (b:Str) (B:List Str) (l:Nat) (hl:l + A.length <= 4096) (hA:∀ w ∈ A,Xad w) (hb:(10:UInt8) ∉ b/\∃ c ∈ b,badL c) (k:Nat):(chk (ends (A ++ b :: B)) l k).2.2=70/\(chk (ends (A ++ b :: B)) l k).1=l + A.length:=by
 rw [X4q,X37,if_pos (Xbr A l (by omega) hA k),X29,X4t,X7q A fun w hw=>(hA w hw).1,X37];have h:=Xm1 b (l + A.length) (adv (ends A) l k).2 (by omega) hb.1 hb.2;rw [if_neg (by rw [h.1]; decide)];exact h
theorem Xhx:∀ rows:List Str,(∀ w ∈ rows,(10:UInt8) ∉ w)->(∀ w ∈ rows,Xad w)\/∃ A b B,rows=A ++ b :: B/\(∀ w ∈ A,Xad w)/\∃ c ∈ b,badL c
 | [],_=>.inl fun w h=>by cases h
 | r :: l,hn=>by
  by_cases hr:∃ c ∈ r,badL c
  ·exact .inr ⟨[],r,l,rfl,(fun w h=>by cases h),hr⟩
  ·have g:Xad r:=⟨hn r (List.mem_cons_self ..),fun c hc hb=>hr ⟨c,hc,hb⟩⟩
   rcases Xhx l fun w hw=>hn w (List.mem_cons_of_mem _ hw) with h | ⟨A,b,B,rfl,hA,hb⟩
   ·exact .inl fun w hw=>by
     grind
   ·refine .inr ⟨r :: A,b,B,rfl,fun w hw=>?_,hb⟩;rcases List.mem_cons.mp hw with rfl | e
    ·exact g
    ·exact hA w e
theorem Xm8 {c:UInt8}:∀ {r:Str},c ∈ trip r->c ∈ r
 | [],h=>by cases h
 | a :: r,h=>by
  rw [X3o] at h;rcases List.mem_append.mp h with h | h
  ·by_cases ha:a=32
   ·rw [if_pos ha] at h;have:c=32:=by simpa using h
    rw [this,<- ha]; exact List.mem_cons_self ..
   ·rw [if_neg ha] at h;have:c=a:=by simpa using h
    rw [this]; exact List.mem_cons_self ..
  ·exact List.mem_cons_of_mem _ (Xm8 h)
theorem Xld {c:UInt8}:∀ {r:Str},c ∈ r->c ∈ trip r
 | a :: r,h=>by
  rw [X3o];rcases List.mem_cons.mp h with rfl | e
  ·by_cases ha:c=32
   ·rw [if_pos ha,ha]; exact List.mem_cons_self ..
   ·rw [if_neg ha]; exact List.mem_cons_self ..
  ·exact List.mem_append_right _ (Xld e)
theorem Xbu (h:c ∈ rowB r):c ∈ r\/c=32:=by
 unfold rowB at h;rw [<- row_split r];rcases List.mem_append.mp h with h | h
 ·grind
 ·rcases List.mem_append.mp h with h | h
  ·grind [List.mem_append_right,Xm8]
  ·exact .inr (by simpa using h)
theorem Xtl (h:c ∈ r):c ∈ rowB r:=by
 rw [<- row_split r] at h;unfold rowB;rcases List.mem_append.mp h with h | h
 ·exact List.mem_append_left _ h
 ·exact List.mem_append_right _ (List.mem_append_left _ (Xld h))
theorem Xwl (h:Xad r):Xad (rowB r):=by
 refine ⟨fun q=>?_,fun c hc hb=>?_⟩
 ·rcases Xbu q with q | q
  ·exact h.1 q
  ·cases q
 ·rcases Xbu hc with q | q
  ·exact h.2 c q hb
  ·rw [q] at hb;rcases hb with hb | hb <;> exact absurd hb (by decide)
theorem Xkj (i:Nat) (at':Int):∀ w ∈ insB i at',Xad w:=by
 intro w hw;unfold insB at hw;split at hw
 ·have:w=Xv7\/w=[32,32,32]:=by simpa using hw
  rcases this with rfl | rfl
  ·exact ⟨by decide,by simp [badL]⟩
  ·exact ⟨by decide,by simp [badL]⟩
 ·cases hw
theorem Xvt (i:Nat) (at':Int):(insB i at').length <= 2:=by
 unfold insB;split
 ·simp
 ·simp
theorem Xax (at':Int):∀ (rows:List Str) (i:Nat),(∀ w ∈ rows,Xad w)->∀ w ∈ X23 at' rows i,Xad w
 | [],i,_,w,hw=>by cases hw
 | r :: l,i,h,w,hw=>by
  rcases List.mem_cons.mp hw with rfl | hw
  ·grind [Xwl,List.mem_cons_self]
  ·rcases List.mem_append.mp hw with hw | hw
   ·exact Xkj _ _ w hw
   ·exact Xax at' l (i + 1) (fun w hw=>h w (List.mem_cons_of_mem _ hw)) w hw
theorem Xct (at':Int):∀ (rows:List Str) (i:Nat),rows.length <= (X23 at' rows i).length/\(X23 at' rows i).length <= 3 * rows.length
 | [],i=>⟨Nat.le_refl _,Nat.le_refl _⟩
 | r :: l,i=>by
  obtain ⟨a,b⟩:=Xct at' l (i + 1);have:=Xvt i at';show (r :: l).length <= (rowB r :: (insB i at' ++ X23 at' l (i + 1))).length/\(rowB r :: (insB i at' ++ X23 at' l (i + 1))).length <= _;simp only [List.length_cons,List.length_append];omega
theorem X9e (at':Int):∀ (A B:List Str) (i:Nat),X23 at' (A ++ B) i=X23 at' A i ++ X23 at' B (i + A.length)
 | [],B,i=>rfl
 | r :: A,B,i=>by
  show rowB r :: (insB i at' ++ X23 at' (A ++ B) (i + 1))=rowB r :: (insB i at' ++ X23 at' A (i + 1)) ++ _;rw [X9e at' A B (i + 1),show i + 1 + A.length=i + (r :: A).length by grind];simp
theorem Xfm:∀ r:Str,(trip r).length <= 3 * r.length
 | []=>Nat.le_refl _
 | a :: r=>by
  have:=Xfm r;rw [X3o,List.length_append,List.length_cons];split <;> simp only [List.length_cons,List.length_nil] <;> omega
theorem Xsk (r:Str):(rowB r).length <= 3 * r.length + 1:=by
 have h:=congrArg List.length (row_split r);have:=Xfm (trimS r);unfold rowB;simp only [List.length_append,List.length_cons,List.length_nil] at h ⊢;omega
theorem Xu5 (at':Int):∀ (rows:List Str) (i:Nat),(ends (X23 at' rows i)).length <= 3 * (ends rows).length + 20 * rows.length
 | [],i=>Nat.le_refl _
 | r :: l,i=>by
  have ih:=Xu5 at' l (i + 1);have hr:=Xsk r;have hi:(ends (insB i at')).length <= 16:=by
   unfold insB;split
   ·decide
   ·exact Nat.zero_le _
  show (ends (rowB r :: (insB i at' ++ X23 at' l (i + 1)))).length <= _;rw [X29,X4q,X29];simp only [List.length_append,List.length_cons];omega
theorem Xdc (s:Str) (at':Int) (hs:s.length <= 8000) (hr:(split 10 s).length <= 1000):(X2o s at').length <= 65536 /\
  ((Xi s).2.2=0/\(Xi (X2o s at')).2.2=0\/(Xi s).2.2=70/\(Xi (X2o s at')).2.2=70/\(Xi s).1 + 2 <= (Xi (X2o s at')).1):=by
 have hes:=Xai s;have hno:=Xgd s;have hl0:(ends (split 10 s)).length=s.length + 1:=by grind
 have hB:=Xu5 at' (split 10 s) 0;have hlen:(X2o s at').length <= 65536:=by
  grind [X2o,Xk1,X29,List.length_append,List.length_cons,List.length_nil]
 refine ⟨hlen,?_⟩;rw [X3r hlen,X3r (s:=s) (by omega)];have g0:Xad Xaq:=⟨by decide,by simp [badL]⟩
 have g1:Xad []:=⟨by decide,fun c h=>by cases h⟩
 have bT:X2o s at'=ends (Xaq :: [] :: X23 at' (split 10 s) 0):=rfl;rw [bT];generalize split 10 s=rows at hes hno hr ⊢;have hrl:=Xct at' rows 0;rcases Xhx rows hno with h | ⟨A,b,B,rfl,hA,hb⟩
 ·left;refine ⟨Xo9 (v:=[10]) (by rw [<- hes]; exact Xbr rows 1 (by omega) h 1),?_⟩;refine Xbr _ 1 (by grind) (fun w hw=>?_) 1;rcases List.mem_cons.mp hw with rfl | hw
  ·exact g0
  ·rcases List.mem_cons.mp hw with rfl | hw
   ·exact g1
   ·exact Xax at' rows 0 h w hw
 ·right;have hbn:(10:UInt8) ∉ b:=hno b (List.mem_append_right _ (List.mem_cons_self ..));simp only [List.length_append,List.length_cons] at hr;obtain ⟨a1,a2⟩:=Xbc A b B 1 (by omega) hA ⟨hbn,hb⟩ 1;have k1:=X37 s [10] 1 1;rw [<- hes] at k1;by_cases q:(chk s 1 1).2.2=0
  ·rw [if_pos q,X44] at k1;rw [k1] at a1;split at a1
   ·cases a1
   ·rw [if_pos (show UInt8.toNat 10=10 from rfl)] at a1;cases a1
  ·rw [if_neg q] at k1;rw [k1] at a1 a2;obtain ⟨c,hc,hcb⟩:=hb;have hla:=Xct at' A 0;have hAg:∀ w ∈ Xaq :: [] :: X23 at' A 0,Xad w:=fun w hw=>by
    rcases List.mem_cons.mp hw with rfl | hw
    ·exact g0
    ·rcases List.mem_cons.mp hw with rfl | hw
     ·exact g1
     ·exact Xax at' A 0 hA w hw
   have hbB:(10:UInt8) ∉ rowB b:=fun q=>by
    rcases Xbu q with q | q
    ·exact hbn q
    ·cases q
   have e:Xaq :: [] :: X23 at' (A ++ b :: B) 0=(Xaq :: [] :: X23 at' A 0) ++ rowB b :: (insB (0 + A.length) at' ++ X23 at' B (0 + A.length + 1)):=by rw [X9e]; rfl
   obtain ⟨b1,b2⟩:=Xbc (Xaq :: [] :: X23 at' A 0) (rowB b) (insB (0 + A.length) at' ++ X23 at' B (0 + A.length + 1)) 1 (by grind) hAg ⟨hbB,c,Xtl hc,hcb⟩ 1;rw [e];refine ⟨a1,b1,?_⟩;rw [a2,b2];simp only [List.length_cons];omega
theorem Xj8 (s:Str) (at':Int):LR (linesT s) (linesT (X2o s at')):=by
 have hn:∀ w ∈ Xk1 s at',(10:UInt8) ∉ w:=fun w hw=>by
  rcases List.mem_cons.mp hw with rfl | hw
  ·decide
  ·rcases List.mem_cons.mp hw with rfl | hw
   ·decide
   ·have:∀ (rows:List Str) (i:Nat),(∀ r ∈ rows,(10:UInt8) ∉ r)->∀ w ∈ X23 at' rows i,(10:UInt8) ∉ w:=by
     intro rows
     induction rows with
     | nil=>intro i _ w hw; cases hw
     | cons r l ih =>
      intro i h w hw;rcases List.mem_cons.mp hw with rfl | hw
      ·intro q;rcases Xbu q with q | q
       ·grind
       ·cases q
      ·rcases List.mem_append.mp hw with hw | hw
       ·exact (Xkj _ _ w hw).1
       ·grind
    exact this _ 0 (Xgd s) w hw
 have e:linesT (X2o s at')=X11 (X23 at' (split 10 s) 0) 2:=by
  unfold linesT X2o;have h:=Xag (Xk1 s at') [] hn;rw [List.append_nil] at h;rw [h,X5b];have hz:X11 (split 10 []) (0 + (Xk1 s at').length)=[]:=rfl;rw [hz,List.append_nil];unfold Xk1;rw [X2i,show rowP Xaq=none from rfl];dsimp only;rw [X2i,show rowP []=none from rfl]
 rw [e];exact Xnq at' (split 10 s) 0 0 2 (Nat.le_refl _)
theorem Xlm:∀ (k n:Nat) (t:Str),n < 10 ^ k->0 < k->n < 18446744073709551616->t.length + k <= 1100->∃ S:Str,S.length <= t.length + k/\∀ (G:Gt) (B:Nat) (m:Mem) (j:Nat),B <= m.next->k < j->∃ m',Q3e G j (.int .u64 (n:Int)) (sv t) m=some (sv S,m')/\Fb B m m'
 | k,n,t,hk,h0,hn,htk=>by
  by_cases h9:(9:Int) < (n:Int)
  ·have k1:1 < k:=by
    rcases Nat.lt_or_ge 1 k with q | q
    ·exact q
    ·exfalso;have:k=1:=by omega
     subst this;omega
   have w1:IntKind.u64.wrap (48 + ((n:Int).tmod 10))=((48 + n % 10:Nat):Int):=by
    have e:(n:Int).tmod 10=((n % 10:Nat):Int):=X106 n 10;rw [e,IntWalk.u64_in _ (by omega)]; omega
   have w2:IntKind.u8.wrap ((48 + n % 10:Nat):Int)=((48 + n % 10:Nat):Int):=by rw [IntWalk.u8_in _ (by omega)]
   have w3:IntKind.u64.wrap ((n:Int).tdiv 10)=((n / 10:Nat):Int):=by
    have e:(n:Int).tdiv 10=((n / 10:Nat):Int):=X10c n 10;rw [e,IntWalk.u64_in _ (by omega)]
   obtain ⟨S,hS,q⟩:=Xlm (k - 1) (n / 10) ([UInt8.ofNat (48 + n % 10)] ++ t) (by
    have:10 ^ k=10 * 10 ^ (k - 1):=by rw [Nat.mul_comm,<- Nat.pow_succ]; congr 1; omega
    omega) (by omega) (by omega) (by simp; omega)
   refine ⟨S,by simp at hS; omega,fun G B m j hB hj=>?_⟩;obtain ⟨j,rfl⟩:∃ i,j=i + 1:=⟨j - 1,by omega⟩
   obtain ⟨m',q1,q2⟩:=q G B (m.push (.cells [.int .u8 ((48 + n % 10:Nat):Int)] 0 0 false (some (2 * Q1u)))) j (by show B <= m.next + 1; omega) (by omega);refine ⟨m',?_,(Fb.push _ hB).trans q2⟩;unfold Q3e;delta F D B X;simp only [Qhr,X3,Xt,if_pos h9];simp only [Qt4 _ _ _ _ _ (by omega:(10:Int) ≠ 0),X3,Q35,w1,c_int,w2,X4,Xlh,Q48 _ _ [UInt8.ofNat (48 + n % 10)] t (by simp; omega),Qur _ _ _ _ _ (by omega:(10:Int) ≠ 0),w3];exact q1
  ·have w1:IntKind.u64.wrap (48 + (n:Int))=((48 + n:Nat):Int):=by rw [IntWalk.u64_in _ (by omega)]; omega
   have w2:IntKind.u8.wrap ((48 + n:Nat):Int)=((48 + n:Nat):Int):=by rw [IntWalk.u8_in _ (by omega)]
   refine ⟨[UInt8.ofNat (48 + n)] ++ t,by simp; omega,fun G B m j hB hj=>?_⟩;obtain ⟨j,rfl⟩:∃ i,j=i + 1:=⟨j - 1,by omega⟩
   refine ⟨m.push (.cells [.int .u8 ((48 + n:Nat):Int)] 0 0 false (some (2 * Q1u))),?_,Fb.push _ hB⟩;unfold Q3e;delta F D B X;simp only [Qhr,X3,Xt,if_neg h9];delta Qbt F B K X;simp only [Q35,w1,X3,c_int,w2,X4,Xlh,Q48 _ _ [UInt8.ofNat (48 + n)] t (by simp; omega)]
termination_by k=>k
theorem Xr2 (z:Int):∃ n:Nat,n < 18446744073709551616/\IntKind.u64.wrap z=(n:Int):=by
 have e:IntKind.u64.wrap z=z % 18446744073709551616:=by unfold IntKind.wrap; simp [IntKind.signed,IntKind.bits]
 exact ⟨(z % 18446744073709551616).toNat,by omega,by rw [e]; omega⟩
theorem c_digX (n:Nat) (h:n < 18446744073709551616):∃ S:Str,S.length <= 20/\∀ (d:Nat) (m:Mem),TA (d + 1) Q6j [.int .u64 (n:Int)] m=some (sv S,m):=by
 obtain ⟨S,hS,q⟩:=Xlm 20 n [] (by omega) (by omega) h (by simp);refine ⟨S,by simpa using hS,fun d m=>?_⟩;rw [X6l];obtain ⟨m',k1,k2⟩:=q ⟨TA d,18446744073709551616⟩ m.next (withLow m m.next) 18446744073709551616 (Nat.le_refl _) (by omega);refine X16 (m1:=m') ?_ k2 rfl;delta Q4h Qbv Qbu E;exact k1
theorem c_num (z:Int):∃ S:Str,S.length <= 21/\∀ (d:Nat) (m:Mem),TA (d + 2) Q6k [I z] m=some (sv S,m):=by
 by_cases hz:z < 0
 ·have w2:un .neg (.int .i64 (IntKind.i64.wrap (z + 1)))=some (.int .i64 (IntKind.i64.wrap (0 - IntKind.i64.wrap (z + 1)))):=rfl;obtain ⟨n,hn,e⟩:=Xr2 (IntKind.u64.wrap (IntKind.i64.wrap (0 - IntKind.i64.wrap (z + 1))) + 1);obtain ⟨S,hS,q⟩:=c_digX n hn;refine ⟨[45] ++ S,by simp; omega,fun d m=>?_⟩;rw [X3p];refine X16 (m1:=withLow m m.next) ?_ (.refl _ _) rfl;delta Q2s F C D B K X A E;have e0:Value.string ⟨#[45]⟩=sv [45]:=rfl;simp only [Q1d,X3,Xt,if_pos hz,Q35,w2,c_int,X4,e,q,e0,Q48 _ _ [45] S (by simp; omega)]
 ·obtain ⟨n,hn,e⟩:=Xr2 z;obtain ⟨S,hS,q⟩:=c_digX n hn;refine ⟨S,by omega,fun d m=>?_⟩;rw [X3p];refine X16 (m1:=withLow m m.next) ?_ (.refl _ _) rfl;delta Q2s F C D B K X A E;simp only [Q1d,X3,Xt,if_neg hz,c_int,X4,e,q]
theorem c_bit (b:Bool) (d:Nat) (m:Mem):TA (d + 1) Q14 [.bool b] m=some (I (if b=true then 1 else 0),m):=by
 rw [X9l];refine X16 (m1:=withLow m m.next) ?_ (.refl _ _) (by cases b <;> rfl);delta Q70 Q K A;cases b <;> rfl
theorem GA.low {k:Nat} {m:Mem} {v:Value} {vs:List Value} (h:GA B m v vs):GA B (withLow m k) v vs:=h.fb (Nat.le_refl _) fun _ _ _=>rfl
theorem X2k (a b:Nat) (c g:Bool):bin .lss c g .int (I a) (I b)=some (.bool (decide (a < b))):=by
 rw [Q1d]; congr 2; rw [decide_eq_decide]; omega
theorem X6r (i:Nat) (c g:Bool) (h:i < 9223372036854775807):bin .add c g .int (I i) (.int .i64 1)=some (I (i + 1:Nat)):=by
 rw [Q35];have:((i:Nat):Int) + 1=((i + 1:Nat):Int):=by omega
 rw [this,IntWalk.i64_in _ (by omega)]
def X2r (ws:List Str):Nat:=(ws.map fun w=>w.length + 22).sum
theorem Xht:∀ (ws pre:List Str),(∀ w ∈ ws,w.length <= 4611686018427387)->pre.length + ws.length <= 4611686018427387->∃ S:Str,S.length <= X2r ws + 1/\∀ (d B:Nat) (m:Mem) (vs:Value) (t:Str) (f:Nat),GA B m vs ((pre ++ ws).map sv)->t.length + X2r ws <= 140737488355328->ws.length < f->Q4i ⟨TA (d + 2),18446744073709551616⟩ f (I pre.length) vs (sv t) m=some (sv (t ++ S),m)
 | [],pre,hw,hl=>by
  refine ⟨[41],Nat.le_add_left _ _,fun d B m vs t f h ht hf=>?_⟩;obtain ⟨f,rfl⟩:∃ j,f=j + 1:=⟨f - 1,by omega⟩
  have hlen:=h.len m;rw [List.append_nil,List.length_map] at hlen;unfold Q4i;delta L C qj D qi P B N Y qx X A qh E;have e1:bin .lss false true .int (I pre.length) (I pre.length)=some (.bool false):=by rw [X2k,decide_eq_false (by omega)]
  simp only [hlen,X3,e1,X6];delta Qdy B K E;have e2:bin .add true true .str (sv t) (.string ⟨#[41]⟩)=some (sv (t ++ [41])):=Q48 _ _ t [41] (by show t.length + 1 < _; omega);simp only [e2,X3]
 | w :: ws,pre,hw,hl=>by
  rw [List.length_cons] at hl;obtain ⟨N,hN,qN⟩:=c_num (w.length:Int);obtain ⟨S,hS,q⟩:=Xht ws (pre ++ [w]) (fun w' h=>hw w' (List.mem_cons_of_mem _ h)) (by rw [List.length_append]; show pre.length + 1 + ws.length <= _; omega);have hwl:=hw w (List.mem_cons_self ..);have hsum:X2r (w :: ws)=w.length + 22 + X2r ws:=by unfold X2r; rw [List.map_cons,List.sum_cons]
  refine ⟨N ++ [58] ++ w ++ S,by simp only [List.length_append,List.length_cons,List.length_nil]; omega,fun d B m vs t f h ht hf=>?_⟩;obtain ⟨f,rfl⟩:∃ j,f=j + 1:=⟨f - 1,by rw [List.length_cons] at hf; omega⟩
  have hlen:=h.len m;rw [List.length_map,List.length_append,List.length_cons] at hlen;obtain ⟨p,p1,p2,_⟩:=h.at (i:=pre.length) (w:=sv w) (by rw [List.getElem?_map,List.getElem?_append_right (Nat.le_refl _),Nat.sub_self]; rfl);have e1:bin .lss false true .int (I pre.length) (I (pre.length + (ws.length + 1):Nat))=some (.bool true):=by rw [X2k,decide_eq_true (by omega)]
  have e2:bin .add false true .str (sv t) (sv N)=some (sv (t ++ N)):=Q48 _ _ t N (by omega);have e3:bin .add true true .str (sv (t ++ N)) (.string ⟨#[58]⟩)=some (sv (t ++ N ++ [58])):=Q48 _ _ (t ++ N) [58] (by rw [List.length_append]; show t.length + N.length + 1 < _; omega);have e4:bin .add false true .str (sv (t ++ N ++ [58])) (sv w)=some (sv (t ++ N ++ [58] ++ w)):=Q48 _ _ _ w (by simp only [List.length_append,List.length_cons,List.length_nil]; omega);have e5:=X6r pre.length true true (by omega);have qN':=qN d m;unfold Q4i;delta L C qj D qi P B N Y qx X A qh E;simp only [hlen,X3,e1,X7,p1,p2,X36,qN',X4,X1p,Bool.true_and,Xr,e2,e3,e4,e5];have:=q d B m vs (t ++ N ++ [58] ++ w) f (by rw [List.append_assoc]; exact h) (by simp only [List.length_append,List.length_cons,List.length_nil]; omega) (by rw [List.length_cons] at hf; omega);rw [List.length_append] at this;refine Eq.trans this ?_;simp only [List.append_assoc]
theorem Xh3:∀ (zs pre:List Int),pre.length + zs.length <= 4611686018427387->∃ S:Str,S.length <= 22 * zs.length/\∀ (d B:Nat) (m:Mem) (vi vs:Value) (t:Str) (f:Nat),GA B m vi ((pre ++ zs).map I)->t.length + 22 * zs.length <= 140737488355328->zs.length < f->Q4j ⟨TA (d + 2),18446744073709551616⟩ f (I pre.length) vi (sv t) vs m=Q9w ⟨TA (d + 2),18446744073709551616⟩ vs (sv (t ++ S)) m
 | [],pre,hl=>by
  refine ⟨[],Nat.le_refl _,fun d B m vi vs t f h ht hf=>?_⟩;obtain ⟨f,rfl⟩:∃ j,f=j + 1:=⟨f - 1,by omega⟩
  have hlen:=h.len m;rw [List.append_nil,List.length_map] at hlen;unfold Q4j;delta C D B N qx X A qh E;have e1:bin .lss false true .int (I pre.length) (I pre.length)=some (.bool false):=by rw [X2k,decide_eq_false (by omega)]
  simp only [hlen,X3,e1,X6,List.append_nil]
 | z :: zs,pre,hl=>by
  rw [List.length_cons] at hl;obtain ⟨N,hN,qN⟩:=c_num z;obtain ⟨S,hS,q⟩:=Xh3 zs (pre ++ [z]) (by rw [List.length_append]; show pre.length + 1 + zs.length <= _; omega);refine ⟨N ++ [44] ++ S,by simp only [List.length_append,List.length_cons,List.length_nil]; omega,fun d B m vi vs t f h ht hf=>?_⟩;rw [List.length_cons] at hf ht;obtain ⟨f,rfl⟩:∃ j,f=j + 1:=⟨f - 1,by omega⟩
  have hlen:=h.len m;rw [List.length_map,List.length_append,List.length_cons] at hlen;obtain ⟨p,p1,p2,_⟩:=h.at (i:=pre.length) (w:=I z) (by rw [List.getElem?_map,List.getElem?_append_right (Nat.le_refl _),Nat.sub_self]; rfl);have e1:bin .lss false true .int (I pre.length) (I (pre.length + (zs.length + 1):Nat))=some (.bool true):=by rw [X2k,decide_eq_true (by omega)]
  have e2:bin .add false true .str (sv t) (sv N)=some (sv (t ++ N)):=Q48 _ _ t N (by omega);have e3:bin .add true true .str (sv (t ++ N)) (.string ⟨#[44]⟩)=some (sv (t ++ N ++ [44])):=Q48 _ _ (t ++ N) [44] (by rw [List.length_append]; show t.length + N.length + 1 < _; omega);have e5:=X6r pre.length true true (by omega);have qN':=qN d m;unfold Q4j;delta C D B N qx X A qh E;simp only [hlen,X3,e1,X7,p1,p2,qN',X4,e2,e3,e5];have:=q d B m vi vs (t ++ N ++ [44]) f (by rw [List.append_assoc]; exact h) (by simp only [List.length_append,List.length_cons,List.length_nil]; omega) (by omega);rw [List.length_append] at this;refine Eq.trans this ?_;simp only [List.append_assoc]
theorem c_dump (zs:List Int) (ws:List Str) (hz:zs.length <= 1000000) (hw:ws.length <= 1000000) (hwl:∀ w ∈ ws,w.length <= SB):∃ S:Str,S.length <= 22 * zs.length + X2r ws + 2/\S ≠ []/\∀ (d B B':Nat) (m:Mem) (vi vs:Value),GA B m vi (zs.map I)->GA B' m vs (ws.map sv)->TA (d + 3) Q0 [vi,vs] m=some (sv S,m):=by
 have hsl:X2r ws <= 1000000 * (SB + 22):=by
  have:∀ l:List Str,(∀ w ∈ l,w.length <= SB)->X2r l <= l.length * (SB + 22):=by
   intro l
   induction l with
   | nil=>intro _; exact Nat.le_refl _
   | cons w l ih =>
    intro h;have:=ih fun w' hw'=>h w' (List.mem_cons_of_mem _ hw');have h1:=h w (List.mem_cons_self ..);have hsum:X2r (w :: l)=w.length + 22 + X2r l:=by unfold X2r; rw [List.map_cons,List.sum_cons]
    rw [hsum,List.length_cons,Nat.add_mul,Nat.one_mul];omega
  exact Nat.le_trans (this ws hwl) (Nat.mul_le_mul_right _ hw)
 have hSB:(SB + 22:Nat)=262166:=rfl;rw [hSB] at hsl;obtain ⟨S1,h1,q1⟩:=Xh3 zs [] (by simp; omega);obtain ⟨S2,h2,q2⟩:=Xht ws [] (fun w h=>by have:=hwl w h; have:SB=262144:=rfl; omega) (by simp; omega);refine ⟨[40] ++ S1 ++ S2,by simp only [List.length_append,List.length_cons,List.length_nil]; omega,by simp,fun d B B' m vi vs g1 g2=>?_⟩;rw [X92];refine X16 (m1:=withLow m m.next) ?_ (.refl _ _) rfl;delta Q5s Qe2 Qe1 Qe0 A E;have k1:=q1 d B (withLow m m.next) vi vs [40] 18446744073709551616 (GA.low g1) (by show 1 + _ <= _; omega) (by omega);refine Eq.trans k1 ?_;delta Q9w Qdz A;exact q2 d B' (withLow m m.next) vs ([40] ++ S1) 18446744073709551616 (GA.low g2) (by simp only [List.length_append,List.length_cons,List.length_nil]; omega) (by omega)
def Av (rb:Nat) (v:Value):Prop:=∀ p n c,v=.slice (some p) n c->p.block ≠ rb
theorem Av.mk {b o c:Nat} (h:b ≠ rb):Av rb (.slice (some ⟨b,o,s⟩) n c):=fun p n c e=>by cases e; exact h
theorem GA.apg {m:Mem} {v:Value} {vs new:List Value} (h:GA B m v vs) (hB:B <= m.next) (hn:X2p x=some new.length) (hc:X1n 1 new.length x m=some new) (h1:new.all one=true) (h0:new ≠ []) (hf:fits (vs.length + new.length) bytes=true) :
  ∃ v' m',X13 e 1 bytes v x m=some (v',m')/\Fb B m m'/\GA B m' v' (vs ++ new)/\∀ rb,rb < m.next->Av rb v->m'.get rb=m.get rb/\Av rb v':=by
 have hpos:0 < new.length:=List.length_pos_iff.mpr h0;have e3:Nat.ble 1 1=true:=rfl;have hz:¬ new.length=0:=by omega
 rcases h with ⟨rfl,rfl⟩ | ⟨hne,b,ver,r,ty,hr,rfl,h2,h3,h4⟩
 ·have hf:fits new.length bytes=true:=by rw [List.length_nil,Nat.zero_add] at hf; exact hf
  refine ⟨.slice (some ⟨m.next,0,some 1⟩) new.length 0,m.push (.cells new 0 0 false (some (2 * e))),?_,Fb.push _ hB,.inr ⟨by simpa using h0,m.next,0,0,some (2 * e),by omega,rfl,hB,Nat.lt_succ_self _,by rw [Mem.get_push,if_pos rfl]; rfl⟩,fun rb h1 _=>⟨by rw [Mem.get_push,if_neg (by omega)],.mk (by omega)⟩⟩;unfold X13;simp only [hn];unfold X1o;simp only [hn,hc,h1,e3,Bool.and_self,Bool.not_true,Bool.false_eq_true,if_false,if_neg hz,hf,if_true]
 ·have hb:b < m.next:=h3;have hrr:r=0\/r=1:=by omega
  rcases hrr with rfl | rfl
  ·have hO:X1o e 1 bytes (.slice (some ⟨b,0,some 1⟩) vs.length (2 * ver + 0)) x m=some (.slice (some ⟨b,0,some 1⟩) (vs.length + new.length) (2 * (ver + 1)),m.put b (.cells (vs ++ new) (ver + 1) 0 false (tyOf ty (2 * e)))):=by
    unfold X1o;have e1:(2 * ver + 0) / 2=ver:=by omega
    have e2:¬ (2 * ver + 0) % 2=1:=by omega
    have e4:Nat.ble 0 (0 + vs.length * 1)=true:=Nat.ble_eq.mpr (Nat.zero_le _);have e5:Nat.ble (0 + vs.length * 1) vs.length=true:=Nat.ble_eq.mpr (by omega);simp only [hn,hc,h1,e3,Bool.and_self,Bool.not_true,Bool.false_eq_true,if_false,h4,e1,Nat.beq_refl,e5,hf,beq_self_eq_true,e2,e4,Bool.not_false,if_true,if_neg hz];rw [show 0 + vs.length * 1=vs.length by omega,List.take_length]
   have hx:∃ p,X13 e 1 bytes (.slice (some ⟨b,0,some 1⟩) vs.length (2 * ver + 0)) x m=some p:=by
    unfold X13;have e1:Nat.div (2 * ver + 0) 2=ver:=by show (2 * ver + 0) / 2=ver; omega
    have e2:(Nat.beq new.length 0 || Nat.beq ((2 * ver + 0) % 2) 1)=false:=by
     have:(2 * ver + 0) % 2=0:=by omega
     rw [this];cases hq:Nat.beq new.length 0 with
     | true=>exact absurd (Nat.eq_of_beq_eq_true hq) hz
     | false=>rfl
    have h4:=h4;rw [Mem.get_def] at h4;cases hr:m.tr.get (b + 1) with
    | none=>rw [hr] at h4; cases h4
    | some r =>
     rw [hr] at h4;simp only [Option.map_some,Option.some.injEq] at h4;obtain ⟨r',k⟩:=Xgw (k:=0 + vs.length * 1) (new:=new) (ty2:=2 * e) h4 (Nat.zero_le _) (by omega);simp only [hn,e2,hc,X39,h1,e3,Bool.and_self,Nat.succ_eq_add_one,hr,e1,X1q,decide_true,hf,k];exact ⟨_,rfl⟩
   obtain ⟨⟨v',m'⟩,hx⟩:=hx;obtain ⟨m2,k1,k2⟩:=X8v hx;rw [hO] at k1;cases k1;refine ⟨_,m',hx,((Fb.refl B m).put _ h2).meq k2,.inr ⟨by simp [hne],b,ver + 1,0,tyOf ty (2 * e),by omega,by rw [List.length_append]; rfl,h2,by rw [k2.next,Mem.next_put]; exact hb,by rw [k2.get,Mem.get_put,if_pos rfl]⟩,fun rb h1 h2=>have h3:b ≠ rb:=h2 _ _ _ rfl; ⟨by rw [k2.get,Mem.get_put,if_neg h3],.mk h3⟩⟩
  ·refine ⟨.slice (some ⟨m.next,0,some 1⟩) (vs.length + new.length) 0,m.push (.cells (vs ++ new) 0 0 false (some (2 * e))),?_,Fb.push _ hB,.inr ⟨by simp [hne],m.next,0,0,some (2 * e),by omega,by rw [List.length_append],hB,Nat.lt_succ_self _,by rw [Mem.get_push,if_pos rfl]⟩,fun rb h1 _=>⟨by rw [Mem.get_push,if_neg (by omega)],.mk (by omega)⟩⟩;unfold X13;have e2:(Nat.beq new.length 0 || Nat.beq ((2 * ver + 1) % 2) 1)=true:=by
    have:(2 * ver + 1) % 2=1:=by omega
    rw [this];exact Bool.or_true _
   simp only [hn,e2];unfold X1o;have e1:(2 * ver + 1) / 2=ver:=by omega
   have e5:Nat.ble (0 + vs.length * 1) vs.length=true:=Nat.ble_eq.mpr (by omega);have e6:(2 * ver + 1) % 2=1:=by omega
   simp only [hn,hc,h1,e3,Bool.and_self,Bool.not_true,Bool.false_eq_true,if_false,h4,e1,Nat.beq_refl,e5,hf,beq_self_eq_true,e6,if_true,if_neg hz,List.drop_zero];rw [Nat.mul_one,List.take_length]
theorem GA.aps {m:Mem} {v:Value} (h:GA B m v (l.map by8)) (hB:B <= m.next) (S:Str) (h0:S ≠ []) (hf:l.length + S.length <= 140737488355328):∃ v' m',X13 e 1 1 v (sv S) m=some (v',m')/\Fb B m m'/\GA B m' v' ((l ++ S).map by8)/\∀ rb,rb < m.next->Av rb v->m'.get rb=m.get rb/\Av rb v':=by
 have hl:(S.map by8).length=S.length:=List.length_map ..;obtain ⟨v',m',a,b,c,g⟩:=GA.apg (e:=e) (bytes:=1) (x:=sv S) (new:=S.map by8) h hB (by rw [hl]; rfl) (by
  rw [hl];show some ((S.take S.length).map by8)=_;rw [List.take_length]) (by rw [List.all_eq_true]; intro y hy; obtain ⟨c,_,rfl⟩:=List.mem_map.mp hy; rfl) (by simpa using h0) (by simp only [fits,Bool.and_eq_true,Nat.ble_eq,List.length_map]; omega)
 exact ⟨v',m',a,b,by rw [List.map_append]; exact c,g⟩
theorem GA.apl {m:Mem} {v:Value} {vs new:List Value} (h:GA B m v vs) (hB:B <= m.next) (hx:GA B' m x new) (h1:new.all one=true) (hf:fits (vs.length + new.length) bytes=true) :
  ∃ v' m',apS e 1 bytes v x m=some (v',m')/\Fb B m m'/\GA B m' v' (vs ++ new):=by
 have hap:apS e 1 bytes v x m=X13 e 1 bytes v x m:=by
  rcases hx with ⟨_,rfl⟩ | ⟨_,b,ver,r,ty,_,rfl,_⟩ <;> rfl
 rw [hap];rcases hx with ⟨rfl,rfl⟩ | ⟨hne,b,ver,r,ty,hr,rfl,h2,h3,h4⟩
 ·refine ⟨v,m,?_,.refl _ _,by rw [List.append_nil]; exact h⟩;rcases h with ⟨rfl,rfl⟩ | ⟨hne,b,ver,r,ty,hr,rfl,h2,h3,h4⟩
  ·exact Eq.trans rfl rfl
  ·unfold X13;have e2:(Nat.beq 0 0 || Nat.beq ((2 * ver + r) % 2) 1)=true:=rfl;simp only [X2p,e2];unfold X1o;have e1:(2 * ver + r) / 2=ver:=by omega
   have e5:Nat.ble (0 + vs.length * 1) vs.length=true:=Nat.ble_eq.mpr (by omega);have e3:Nat.ble 1 1=true:=rfl;have hc:X1n 1 0 (.slice none 0 0) m=some []:=rfl;rw [List.length_nil,Nat.add_zero] at hf;simp only [X2p,hc,List.all_nil,e3,Bool.and_self,Bool.not_true,Bool.false_eq_true,if_false,h4,e1,Nat.beq_refl,e5,hf,Nat.add_zero,beq_self_eq_true,if_true]
 ·obtain ⟨v',m',a,b,c,_⟩:=GA.apg (e:=e) h hB rfl (x:=.slice (some ⟨b,0,some 1⟩) new.length (2 * ver + r)) (by
   show (if (some 1:Option Nat)=some 1 then getCells m ⟨b,0,some ((2 * ver + r) / 2)⟩ (new.length * 1) else none)=_;rw [if_pos rfl,show (2 * ver + r) / 2=ver by omega,Nat.mul_one];simp [Xn,Xy,h4]) h1 hne hf
  exact ⟨v',m',a,b,c⟩
theorem Ty.int {N:Nat} {k:IntKind} {t:Tn} (h:Ty N (.i k) t):∃ z,t=.v (.int k z):=by cases h; exact ⟨_,rfl⟩
theorem Ty.str (h:Ty N .s t):∃ w:Str,t=.v (sv w)/\w.length <= SB:=by cases h with | s w h=>exact ⟨w,rfl,h⟩
theorem Ty.bool {N:Nat} {t:Tn} (h:Ty N .b t):∃ x,t=.v (.bool x):=by cases h; exact ⟨_,rfl⟩
theorem Ty.list {r:Nat} (h:Ty N (.l r) t):∃ n ts,t=.l (rowL r) n ts/\n <= N/\ts.length=n * rowL r/\∀ (i j:Nat) (g:Fd),i < n->j < rowL r->(rowT r)[j]?=some g->∃ t,ts[i * rowL r + j]?=some t/\Ty N g t:=by
 cases h with
 | l r n ts hn hl h =>
  refine ⟨n,ts,rfl,hn,hl,fun i j g hi hj hf=>?_⟩;have hlt:i * rowL r + j < ts.length:=by
   rw [hl];exact Nat.lt_of_lt_of_le (by rw [Nat.add_mul,Nat.one_mul]; omega:i * rowL r + j < (i + 1) * rowL r) (Nat.mul_le_mul_right _ hi)
  exact ⟨ts[i * rowL r + j],List.getElem?_eq_getElem hlt,h _ _ g (List.getElem?_eq_getElem hlt) (by rw [fdAt_row _ _ _ hj]; exact hf)⟩
theorem _root_.Go.Ab.Fb.mono {m:Mem} (h:Fb B' m m') (hB:B <= B'):Fb B m m' where
 next:=h.next
 low:=h.low
 low2 x h1 h2:=h.low2 x h1 (by omega)
 get b hb:=h.get b (by omega)
 lo:=h.lo
theorem Rd.val {m:Mem} (h:Rd B m (.v x) y):y=x:=by cases h; rfl
theorem Rd.len {m:Mem} (h:Rd B m (.l sz n ts) y) (m':Mem):lenK 1 y m'=some (I n):=by
 cases h with
 | nil=>exact Xa6 _ _ _ _
 | l L n sz ts cs ty hn hr hlo hb hg hl ht h=>exact X2y ..
theorem Rd.again {B:Nat} {m:Mem} {sz n:Nat} {ts:List Tn} {y:Value} (h:Rd B m (.l sz n ts) y) (m':Mem):again (pur (some y) m') y=true:=by
 cases h with
 | nil=>rfl
 | l L n sz ts cs ty hn hr hlo hb hg hl ht h=>exact X5e ..
theorem Rd.row {m:Mem} (h:Rd B m (.l sz n ts) y) {i:Nat} (hi:i < n):∃ (b ver:Nat) (cs:List Value),Xa sz y (I i)=some (pt b (i * sz) ver)/\b < m.next/\cs.length=sz/\(∀ j t,j < sz->ts[i * sz + j]?=some t->∃ c,cs[j]?=some c/\Rd B m t c) /\
  ∀ m',(∀ b,b < m.next->m'.get b=m.get b)->X8 true sz (pt b (i * sz) ver) m'=some (.agg ⟨cs⟩)/\∀ j c,cs[j]?=some c->X8 false 1 (pt b (i * sz + j) ver) m'=some c:=by
 cases h with
 | nil=>exact absurd hi (Nat.not_lt_zero _)
 | l L n sz ts cs ty hn hr hlo hb hg hl ht h =>
  have hle:(i + 1) * sz <= n * sz:=Nat.mul_le_mul_right _ hi;rw [Nat.add_mul,Nat.one_mul] at hle;have hget:∀ j,j < sz->((cs.drop (i * sz)).take sz)[j]?=cs[i * sz + j]?:=fun j hj=>by rw [List.getElem?_take,if_pos hj,List.getElem?_drop]
  have hlen:((cs.drop (i * sz)).take sz).length=sz:=by rw [List.length_take,List.length_drop]; omega
  refine ⟨L.b,L.ver,(cs.drop (i * sz)).take sz,X3e L hr n sz i .i64 hi,hb,hlen,fun j t hj htj=>?_,fun m' hm=>?_⟩
  ·have hlt:i * sz + j < cs.length:=by omega
   exact ⟨cs[i * sz + j],by rw [hget j hj]; exact List.getElem?_eq_getElem hlt,h _ t _ htj (List.getElem?_eq_getElem hlt)⟩
  ·have hg':m'.get L.b=some (.cells cs L.ver 0 false ty):=by rw [hm _ hb]; exact hg
   refine ⟨Xv hg' (by omega) rfl,fun j c hc=>X12 hg' ?_⟩;have hj:j < sz:=by
    have:=(List.getElem?_eq_some_iff.mp hc).1;omega
   rw [<- hget j hj]; exact hc
def Acc:Bool->Nat->Nat->Str->Value->Mem->Prop
 | true,_,_,t,acc,_=>acc=sv t
 | false,B,rb,t,acc,m=>GA B m acc (t.map by8)/\Av rb acc
def St (k:Bool) (m0:Mem) (rb:Nat) (o:AObj) (t:Str) (acc:Value) (m:Mem):Prop:=Acc k m0.next rb t acc m/\Fb m0.next m0 m/\rb < m.next/\m.get rb=some o
theorem Xyu {n R:Nat} (F:Nat->Value->Value->Mem->Option Rs) (K:Value->Mem->Option Rs) (St:Str->Value->Mem->Prop) (hend:∀ t acc m f,St t acc m->F (f + 1) (I n) acc m=K acc m)
  (S:Nat->Str) (hR:∀ i,i < n->(S i).length <= R) (hstep:∀ i,i < n->∀ t acc m f,St t acc m->t.length + R <= 140737488355328->∃ acc' m',F (f + 1) (I i) acc m=F f (I (i + 1:Nat)) acc' m'/\St (t ++ S i) acc' m') :
  ∀ (k i:Nat) (t:Str) (acc:Value) (m:Mem) (f:Nat),i + k=n->St t acc m->t.length + k * R <= 140737488355328->k < f->∃ acc' m',F f (I i) acc m=K acc' m'/\St (t ++ ((List.range' i k).flatMap S)) acc' m'
 | 0,i,t,acc,m,f,hi,hS,ht,hf=>by
  obtain ⟨f,rfl⟩:∃ j,f=j + 1:=⟨f - 1,by omega⟩
  have:i=n:=by omega
  subst this;exact ⟨acc,m,hend t acc m f hS,by simpa using hS⟩
 | k + 1,i,t,acc,m,f,hi,hS,ht,hf=>by
  obtain ⟨f,rfl⟩:∃ j,f=j + 1:=⟨f - 1,by omega⟩
  rw [Nat.add_mul,Nat.one_mul] at ht;obtain ⟨acc1,m1,e1,s1⟩:=hstep i (by omega) t acc m f hS (by omega);have hri:=hR i (by omega);obtain ⟨acc2,m2,e2,s2⟩:=Xyu F K St hend S hR hstep k (i + 1) (t ++ S i) acc1 m1 f (by omega) s1 (by rw [List.length_append]; omega) (by omega);refine ⟨acc2,m2,e1.trans e2,?_⟩;rw [List.range'_succ,List.flatMap_cons,<- List.append_assoc];exact s2
theorem Xot {S:Nat->Str} {R:Nat}:∀ (k i n:Nat),i + k=n->(∀ i,i < n->(S i).length <= R)->((List.range' i k).flatMap S).length <= k * R
 | 0,i,n,h,hR=>Nat.zero_le _
 | k + 1,i,n,h,hR=>by
  rw [List.range'_succ,List.flatMap_cons,List.length_append,Nat.add_mul,Nat.one_mul];have:=Xot (S:=S) (R:=R) k (i + 1) n (by omega) hR;have:=hR i (by omega);omega
theorem Xzb (Q:Nat->Str->Prop) (hrow:∀ i,i < n->∃ S:Str,S.length <= R/\Q i S):∃ T:Str,T.length <= n * R/\∀ (F:Nat->Value->Value->Mem->Option Rs) (K:Value->Mem->Option Rs) (St:Str->Value->Mem->Prop),(∀ t acc m f,St t acc m->F (f + 1) (I n) acc m=K acc m) ->
  (∀ i,i < n->∀ S:Str,S.length <= R->Q i S->∀ t acc m f,St t acc m->t.length + R <= 140737488355328->∃ acc' m',F (f + 1) (I i) acc m=F f (I (i + 1:Nat)) acc' m'/\St (t ++ S) acc' m') ->
  ∀ t acc m f,St t acc m->t.length + n * R <= 140737488355328->n < f->∃ acc' m',F f (I (0:Nat)) acc m=K acc' m'/\St (t ++ T) acc' m':=by
 have:∀ i,∃ S:Str,i < n->S.length <= R/\Q i S:=fun i=>by
  by_cases h:i < n
  ·obtain ⟨S,h1⟩:=hrow i h;exact ⟨S,fun _=>h1⟩
  ·exact ⟨[],fun q=>absurd q h⟩
 obtain ⟨S,hS⟩:=Classical.axiomOfChoice this;refine ⟨(List.range' 0 n).flatMap S,Xot n 0 n (by omega) fun i hi=>(hS i hi).1,fun F K St hend hstep t acc m f h ht hf=>?_⟩;exact Xyu F K St hend S (fun i hi=>(hS i hi).1) (fun i hi t acc m f=>hstep i hi (S i) (hS i hi).1 (hS i hi).2 t acc m f) n 0 t acc m f (by omega) h ht hf
def Lp (k:Bool) (N:Nat) (t:Tn) (T:Str) (J R:Nat) (F:Nat->Value->Value->Value->Mem->Option Rs) (K:Value->Value->Mem->Option Rs) (C:Nat->Nat->Prop:=fun _ _=>True):Prop:=
 ∀ (B rb:Nat) (m0:Mem) (dv:List Value) (ty:Option Nat) (y:Value),C rb m0.next->Rd B m0 t y->dv[J]?=some y->∀ (s:Str) (acc:Value) (m:Mem) (f:Nat),St k m0 rb (.cells dv 0 0 false ty) s acc m->s.length + N * R <= 140737488355328->N < f->∃ acc' m',F f (I (0:Nat)) (pt rb 0 0) acc m=K (pt rb 0 0) acc' m'/\St k m0 rb (.cells dv 0 0 false ty) (s ++ T) acc' m'
theorem lp {C:Nat->Nat->Prop} {r J:Nat} (Q:Nat->Str->Prop) (hn:n <= N) (hR:0 < R) (hrow:∀ i,i < n->∃ S:Str,S.length <= R/\Q i S):∃ T:Str,T.length <= N * R/\∀ (F:Nat->Value->Value->Value->Mem->Option Rs) (K:Value->Value->Mem->Option Rs) (body:Nat->Value->Value->Value->Mem->Option Rs),
  (∀ f i p acc m,F (f + 1) i p acc m=bp (pur (Xx J p) m) fun x m=>bp (pur (X8 false 1 x m) m) fun y m=>bp (pur (lenK 1 y m) m) fun n m=>bp (pur (bin .lss false true .int i n) m) fun c m=>brb c (body f i p acc m) (K p acc m)) ->
  (∀ (i:Nat) (S:Str) (rb:Nat) (m0:Mem) (o:AObj) (B:Nat) (t:Str) (acc:Value) (m:Mem) (f:Nat) (y:Value) (b ver:Nat) (cs:List Value),C rb m0.next->i < n->S.length <= R->Q i S->St k m0 rb o t acc m->t.length + R <= 140737488355328->(∀ m',Fb m.next m m'->X8 false 1 (pt rb J 0) m'=some y)->(∀ m',again (pur (some y) m') y=true)->Xa r y (I i)=some (pt b (i * r) ver)->cs.length=r ->
   (∀ j t,j < r->ts[i * r + j]?=some t->∃ c,cs[j]?=some c/\Rd B m0 t c)->(∀ m',(∀ b,b < m0.next->m'.get b=m0.get b)->X8 true r (pt b (i * r) ver) m'=some (.agg ⟨cs⟩)/\∀ j c,cs[j]?=some c->X8 false 1 (pt b (i * r + j) ver) m'=some c)->bin .add true true .int (I i) (.int .i64 1)=some (I (i + 1:Nat)) ->
   ∃ acc' m',body f (I i) (pt rb 0 0) acc m=F f (I (i + 1:Nat)) (pt rb 0 0) acc' m'/\St k m0 rb o (t ++ S) acc' m')->Lp k N (.l r n ts) T J R F K C:=by
 obtain ⟨T,hT,loop⟩:=Xzb Q hrow;have hs2:n * R <= N * R:=Nat.mul_le_mul_right _ hn;have hs3:N <= N * R:=Nat.le_mul_of_pos_right _ hR;refine ⟨T,Nat.le_trans hT hs2,fun F K body hF hstep B rb m0 dv ty y hC hrd hdv s acc m f hSt hs hf=>?_⟩;refine loop (fun f i acc m=>F f i (pt rb 0 0) acc m) (fun acc m=>K (pt rb 0 0) acc m) (St k m0 rb (.cells dv 0 0 false ty)) (fun t acc m f h=>?_) (fun i hi S hS hQ t acc m f h ht=>?_) s acc m f hSt (by omega) (by omega)
 ·have l0:X8 false 1 (pt rb J 0) m=some y:=X12 h.2.2.2 hdv;have e1:bin .lss false true .int (I n) (I n)=some (.bool false):=by rw [X2k,decide_eq_false (by omega)]
  refine (hF ..).trans ?_;simp only [X9,Nat.zero_add,X3,l0,hrd.len m,e1,X6]
 ·have l0:X8 false 1 (pt rb J 0) m=some y:=X12 h.2.2.2 hdv;have e1:bin .lss false true .int (I i) (I n)=some (.bool true):=by rw [X2k,decide_eq_true (by omega)]
  obtain ⟨b,ver,cs,ix,hb,hcl,hc,hld⟩:=hrd.row hi;obtain ⟨acc',m',a,c⟩:=hstep i S rb m0 _ B t acc m f y b ver cs hC hi hS hQ h ht (fun m' f=>X12 (by rw [f.get rb h.2.2.1]; exact h.2.2.2) hdv) (hrd.again ·) ix hcl hc hld (X6r i true true (by omega));refine ⟨acc',m',(hF ..).trans (Eq.trans ?_ a),c⟩;simp only [X9,Nat.zero_add,X3,l0,hrd.len m,e1,X7]
theorem GA.new {m:Mem} {vs:List Value} (hB:B <= m.next) (hne:vs ≠ []):GA B (m.push (.cells vs 0 0 false ty)) (.slice (some ⟨m.next,0,some 1⟩) vs.length 1) vs:=
 .inr ⟨hne,m.next,0,1,ty,by omega,rfl,hB,Nat.lt_succ_self _,by rw [Mem.get_push,if_pos rfl]⟩
theorem GA.none (B:Nat) (m:Mem):GA B m (.slice none 0 0) []:=.inl ⟨rfl,rfl⟩
theorem GA.on {m:Mem} {v:Value} {vs:List Value} (h:GA B m v vs) (f:Fb B' m m') (hB:m.next <= B'):GA B m' v vs:=h.fb f.next fun b _ hb=>f.get b (by omega)
theorem St.fin {m:Mem} {t:Str} (h:St false m0 rb o t acc m) (f:Fb m.next m m3) (hS:S ≠ []) (hl:t.length + S.length <= 140737488355328) (e:Nat):∃ acc' m4,X13 e 1 1 acc (sv S) m3=some (acc',m4)/\St false m0 rb o (t ++ S) acc' m4:=by
 obtain ⟨⟨g,av⟩,fm,hr,ho⟩:=h;have:=f.next;have:=fm.next;obtain ⟨acc',m4,ap,f4,g4,k⟩:=GA.aps (e:=e) (GA.on g f (Nat.le_refl _)) (by omega) S hS hl;obtain ⟨k1,k2⟩:=k rb (by omega) av;exact ⟨acc',m4,ap,⟨g4,k2⟩,(fm.trans (f.mono fm.next)).trans f4,by have:=f4.next; omega,by rw [k1,f.get rb hr]; exact ho⟩
theorem St.fis {m:Mem} {t:Str} (h:St true m0 rb o t acc m) (f:Fb m.next m m3) (hl:t.length + S.length <= 140737488355328):bin .add false true .str acc (sv S)=some (sv (t ++ S))/\St true m0 rb o (t ++ S) (sv (t ++ S)) m3:=by
 obtain ⟨rfl,fm,hr,ho⟩:=h;have:=f.next;exact ⟨Q48 _ _ _ _ (by omega),rfl,fm.trans (f.mono fm.next),by omega,by rw [f.get rb hr]; exact ho⟩
theorem St.inn {m:Mem} {t:Str} (h:St k m0 rb o t acc m) (f:Fb m.next m m3) (h1:m3.get rc=some oc) (h2:m.next <= rc) (h3:rc < m3.next):St k m0 rc oc t acc m3:=by
 obtain ⟨g,fm,_,_⟩:=h;refine ⟨?_,fm.trans (f.mono fm.next),h3,h1⟩;cases k with
 | true=>exact g
 | false =>
  refine ⟨GA.on g.1 f (Nat.le_refl _),fun p n c e=>?_⟩;rcases g.1 with ⟨_,q⟩ | ⟨_,b,ver,r,ty,_,q,_,hb,_⟩
  ·rw [q] at e; cases e
  ·rw [q] at e; cases e; show b ≠ rc; omega
theorem St.out {m m2:Mem} {t t2:Str} {acc2:Value} (h:St k m0 rb o t acc m) (h2:St k m0 rc oc t2 acc2 m2) (hr:rb < m0.next):St k m0 rb o t2 acc2 m2:=by
 obtain ⟨_,fm,_,ho⟩:=h;obtain ⟨g,fn,_,_⟩:=h2;have:=fn.next;refine ⟨?_,fn,by omega,by rw [fn.get rb hr,<- fm.get rb hr]; exact ho⟩;cases k with
 | true=>exact g
 | false =>
  refine ⟨g.1,fun p n c e=>?_⟩;rcases g.1 with ⟨_,q⟩ | ⟨_,b,ver,r,ty,_,q,h4,hb,_⟩
  ·rw [q] at e; cases e
  ·rw [q] at e; cases e; show b ≠ rb; omega
theorem Rd.one {B:Nat} {m:Mem} {sz n:Nat} {ts:List Tn} {y:Value} (h:Rd B m (.l sz n ts) y):one y=true:=by
 cases h with
 | nil=>rfl
 | l L n sz ts cs ty hn hr hlo hb hg hl ht h=>exact X76 ..
theorem bld (m:Mem) (vs:List Value) (ty:Option Nat) (hne:vs ≠ []) {x:Option (Value × Mem)} (h:x=some (.slice (some ⟨m.next,0,some 1⟩) vs.length 1,m.push (.cells vs 0 0 false ty))):∃ m2,x=some (.slice (some ⟨m.next,0,some 1⟩) vs.length 1,m2)/\Fb m.next m m2/\m2.next=m.next + 1/\GA m.next m2 (.slice (some ⟨m.next,0,some 1⟩) vs.length 1) vs:=⟨_,h,Fb.push _ (Nat.le_refl _),rfl,GA.new (Nat.le_refl _) hne⟩
theorem copy_row (m:Mem) (ty:Option Nat) (z cs:List Value) (hz:z.length=n) (hn:cs.length=n) (h1:cs.all one=true):∃ m1,Xd n (pt m.next 0 0) (.agg ⟨cs⟩) (m.push (.cells z 0 0 false ty))=some m1/\Fb m.next m m1/\m1.next=m.next + 1/\m1.get m.next=some (.cells cs 0 0 false ty):=by
 obtain ⟨m1,a,b,c,d⟩:=X2c [] m ty z (v:=.agg ⟨cs⟩) (n:=n) hz (by rw [<- hn]; rfl) (by show cs.all one=true; exact h1);exact ⟨m1,a,b.toFb (Nat.le_refl _),c,d⟩
theorem X4g (m:Mem) (ty:Option Nat) (z cs:List Value) (hz:z.length=n) (hn:cs.length=n) (h1:cs.all one=true):∃ m1,Xd n (pt m.next 0 0) (.agg ⟨cs⟩) (m.push (.cells z 0 0 false ty))=some m1/\Fb m.next m m1/\m1.next=m.next + 1/\(∀ m',(∀ b,b < m1.next->m'.get b=m1.get b)->∀ (j:Nat) (c:Value),cs[j]?=some c->X8 false 1 (pt m.next j 0) m'=some c)/\m1.get m.next=some (.cells cs 0 0 false ty):=by
 obtain ⟨m1,a,b,c,d⟩:=copy_row m ty z cs hz hn h1;exact ⟨m1,a,b,c,fun m' h j y hy=>X12 (by rw [h _ (by omega)]; exact d) hy,d⟩
theorem X1w (b:Bool) (m:Mem):again (pur (some (.bool b)) m) (.bool b)=true:=by cases b <;> rfl
abbrev gD (d:Nat):Gt:=⟨TA (d + 3),18446744073709551616⟩
def Xej (N:Nat) (t:Tn) (T:Str):Prop:=∀ (d:Nat) ,Lp false N t T 6 262466 (fun f i p acc m=>Q9t (gD d) f i p acc m) fun p acc m=>Q6v (gD d) acc p m
set_option maxHeartbeats 1000000 in
theorem Xrr (ht:Ty N (.l 6) t):∃ T:Str,T.length <= N * 262466/\Xej N t T:=by
 obtain ⟨R,hR⟩:∃ R,R=262466:=⟨_,rfl⟩
 unfold Xej;rw [<- hR];obtain ⟨n,ts,rfl,hn,hl,hty⟩:=ht.list;obtain ⟨T,hT,loop⟩:=lp (k:=false) (J:=6) (r:=7) (ts:=ts) (fun i S=>∃ (w0:Str) (z1:Int) (z2:Int) (z3:Int) (b4:Bool) (z5:Int) (z6:Int),ts[i * 7 + 0]?=some (.v (sv w0))/\ts[i * 7 + 1]?=some (.v (.int .u32 z1))/\ts[i * 7 + 2]?=some (.v (.int .i64 z2))/\ts[i * 7 + 3]?=some (.v (.int .u32 z3))/\ts[i * 7 + 4]?=some (.v (.bool b4))/\ts[i * 7 + 5]?=some (.v (.int .i64 z5))/\ts[i * 7 + 6]?=some (.v (.int .i64 z6))/\S ≠ []/\∀ (d B B':Nat) (m:Mem) (vi vs:Value),GA B m vi ([IntKind.i64.wrap z1,z2,IntKind.i64.wrap z3,(if b4=true then 1 else 0),z5,z6].map I)->GA B' m vs (([w0]:List Str).map sv)->TA (d + 3) Q0 [vi,vs] m=some (sv S,m)) hn (R:=R) (by omega) fun i hi=>by
  obtain ⟨t0,a0,k0⟩:=hty i 0 _ hi (by decide) rfl;obtain ⟨t1,a1,k1⟩:=hty i 1 _ hi (by decide) rfl;obtain ⟨t2,a2,k2⟩:=hty i 2 _ hi (by decide) rfl;obtain ⟨t3,a3,k3⟩:=hty i 3 _ hi (by decide) rfl;obtain ⟨t4,a4,k4⟩:=hty i 4 _ hi (by decide) rfl;obtain ⟨t5,a5,k5⟩:=hty i 5 _ hi (by decide) rfl;obtain ⟨t6,a6,k6⟩:=hty i 6 _ hi (by decide) rfl;obtain ⟨w0,rfl,h0⟩:=k0.str;obtain ⟨z1,rfl⟩:=k1.int;obtain ⟨z2,rfl⟩:=k2.int;obtain ⟨z3,rfl⟩:=k3.int;obtain ⟨b4,rfl⟩:=k4.bool;obtain ⟨z5,rfl⟩:=k5.int;obtain ⟨z6,rfl⟩:=k6.int;obtain ⟨S,hS,hne,q⟩:=c_dump [IntKind.i64.wrap z1,z2,IntKind.i64.wrap z3,(if b4=true then 1 else 0),z5,z6] [w0] (by simp) (by simp) (by simp [h0]);have hSB:SB=262144:=rfl;exact ⟨S,by simp [X2r] at hS; omega,w0,z1,z2,z3,b4,z5,z6,a0,a1,a2,a3,a4,a5,a6,hne,q⟩
 refine ⟨T,hT,fun d =>loop _ _ _ (fun _ _ _ _ _=>rfl) ?_⟩;intro i S rb m0 o B t acc m f y b ver cs _ hi hS hQ h ht l0 ag ix hcl hc hld e2;obtain ⟨w0,z1,z2,z3,b4,z5,z6,a0,a1,a2,a3,a4,a5,a6,hne,q⟩:=hQ;have hg:=h.2.1.get;obtain ⟨c0,x0,y0⟩:=hc 0 _ (by decide) a0;obtain ⟨c1,x1,y1⟩:=hc 1 _ (by decide) a1;obtain ⟨c2,x2,y2⟩:=hc 2 _ (by decide) a2;obtain ⟨c3,x3,y3⟩:=hc 3 _ (by decide) a3;obtain ⟨c4,x4,y4⟩:=hc 4 _ (by decide) a4;obtain ⟨c5,x5,y5⟩:=hc 5 _ (by decide) a5;obtain ⟨c6,x6,y6⟩:=hc 6 _ (by decide) a6;cases y0.val;cases y1.val;cases y2.val;cases y3.val;cases y4.val;cases y5.val;cases y6.val;obtain rfl:cs=[sv w0,.int .u32 z1,.int .i64 z2,.int .u32 z3,.bool b4,.int .i64 z5,.int .i64 z6]:=by
  match cs,hcl with
  | [_,_,_,_,_,_,_],_=>simp at x0 x1 x2 x3 x4 x5 x6; simp [x0,x1,x2,x3,x4,x5,x6]
 obtain ⟨ma,c1,fa,na,L,gat⟩:=X4g (n:=7) m (some (2 * Qi5 + 1)) Qdd _ rfl rfl (rfl:[sv w0,.int .u32 z1,.int .i64 z2,.int .u32 z3,.bool b4,.int .i64 z5,.int .i64 z6].all one=true);have hl:=(hld m hg).1;obtain ⟨mb,s1,fmb,nmb,gmb⟩:=bld ma [sv w0] (some (2 * Q4)) (by simp) (x:=X5 Q4 [(.string ⟨#[]⟩)] 1 1 [(0,sv w0)] ma) (Eq.trans rfl rfl);obtain ⟨mc,s2,fmc,nmc,gmc⟩:=bld mb [I (IntKind.i64.wrap z1),I (z2),I (IntKind.i64.wrap z3),I ((if b4=true then 1 else 0)),I (z5),I (z6)] (some (2 * Qm)) (by simp) (x:=X5 Qm [(.int .i64 0)] 1 6 [(0,I (IntKind.i64.wrap z1)),(1,I (z2)),(2,I (IntKind.i64.wrap z3)),(3,I ((if b4=true then 1 else 0))),(4,I (z5)),(5,I (z6))] mb) (Eq.trans rfl rfl);have Lb:=L ma fun _ _=>rfl;have Lc:=L mb fun b hb=>fmb.get b hb;have fall:Fb m.next m mc:=(fa.trans (fmb.mono fa.next)).trans (fmc.mono (Nat.le_trans fa.next fmb.next));have hq:=q d mb.next ma.next mc _ _ gmc (GA.on gmb fmc (Nat.le_refl _));obtain ⟨acc',m4,ap,hfin⟩:=h.fin fall hne (by omega) Q1u;refine ⟨acc',m4,?_,hfin⟩;have ix:Xa 7 y (I i)=some (pt b (i * 7) ver):=ix;delta L F C qj O H D qi qc P B N T S Y X qw A qh;simp only [X9,Nat.zero_add,Nat.add_zero,Nat.reduceAdd,X3,ix,l0 m (.refl _ _),ag,X4,c_int,X1a,X1p,Bool.true_and,Xr,X1w,hl,Xp,c1,unt,s1,s2,Lb 0 _ rfl,Lb 1 _ rfl,Lb 2 _ rfl,Lb 3 _ rfl,Lb 4 _ rfl,Lb 5 _ rfl,Lb 6 _ rfl,Lc 0 _ rfl,Lc 1 _ rfl,Lc 2 _ rfl,Lc 3 _ rfl,Lc 4 _ rfl,Lc 5 _ rfl,Lc 6 _ rfl,c_bit b4 (d + 2) mb,hq,e2,ap]
def Xc9 (N:Nat) (t:Tn) (T:Str):Prop:=∀ (d:Nat) ,Lp false N t T 5 262466 (fun f i p acc m=>Q9u (gD d) f i p acc m) fun p acc m=>Q6w (gD d) p acc m
set_option maxHeartbeats 1000000 in
theorem Xrb (ht:Ty N (.l 5) t):∃ T:Str,T.length <= N * 262466/\Xc9 N t T:=by
 obtain ⟨R,hR⟩:∃ R,R=262466:=⟨_,rfl⟩
 unfold Xc9;rw [<- hR];obtain ⟨n,ts,rfl,hn,hl,hty⟩:=ht.list;obtain ⟨T,hT,loop⟩:=lp (k:=false) (J:=5) (r:=3) (ts:=ts) (fun i S=>∃ (b0:Bool) (w1:Str) (z2:Int),ts[i * 3 + 0]?=some (.v (.bool b0))/\ts[i * 3 + 1]?=some (.v (sv w1))/\ts[i * 3 + 2]?=some (.v (.int .u32 z2))/\S ≠ []/\∀ (d B B':Nat) (m:Mem) (vi vs:Value),GA B m vi ([(if b0=true then 1 else 0),IntKind.i64.wrap z2].map I)->GA B' m vs (([w1]:List Str).map sv)->TA (d + 3) Q0 [vi,vs] m=some (sv S,m)) hn (R:=R) (by omega) fun i hi=>by
  obtain ⟨t0,a0,k0⟩:=hty i 0 _ hi (by decide) rfl;obtain ⟨t1,a1,k1⟩:=hty i 1 _ hi (by decide) rfl;obtain ⟨t2,a2,k2⟩:=hty i 2 _ hi (by decide) rfl;obtain ⟨b0,rfl⟩:=k0.bool;obtain ⟨w1,rfl,h1⟩:=k1.str;obtain ⟨z2,rfl⟩:=k2.int;obtain ⟨S,hS,hne,q⟩:=c_dump [(if b0=true then 1 else 0),IntKind.i64.wrap z2] [w1] (by simp) (by simp) (by simp [h1]);have hSB:SB=262144:=rfl;exact ⟨S,by simp [X2r] at hS; omega,b0,w1,z2,a0,a1,a2,hne,q⟩
 refine ⟨T,hT,fun d =>loop _ _ _ (fun _ _ _ _ _=>rfl) ?_⟩;intro i S rb m0 o B t acc m f y b ver cs _ hi hS hQ h ht l0 ag ix hcl hc hld e2;obtain ⟨b0,w1,z2,a0,a1,a2,hne,q⟩:=hQ;have hg:=h.2.1.get;obtain ⟨c0,x0,y0⟩:=hc 0 _ (by decide) a0;obtain ⟨c1,x1,y1⟩:=hc 1 _ (by decide) a1;obtain ⟨c2,x2,y2⟩:=hc 2 _ (by decide) a2;cases y0.val;cases y1.val;cases y2.val;obtain rfl:cs=[.bool b0,sv w1,.int .u32 z2]:=by
  match cs,hcl with
  | [_,_,_],_=>simp at x0 x1 x2; simp [x0,x1,x2]
 obtain ⟨ma,hma,fa⟩:∃ ma,ma=m/\Fb m.next m ma:=⟨m,rfl,.refl _ _⟩
 have hgn:=h.2.1.next;have L:∀ m',(∀ b,b < ma.next->m'.get b=ma.get b)->∀ (j:Nat) (c:Value),[.bool b0,sv w1,.int .u32 z2][j]?=some c->X8 false 1 (pt b (i * 3 + j) ver) m'=some c:=fun m' g j c hj=>(hld m' fun b hb=>by rw [g b (by subst hma; omega),hma,hg b hb]).2 j c hj;rw [<- hma];obtain ⟨mb,s1,fmb,nmb,gmb⟩:=bld ma [sv w1] (some (2 * Q4)) (by simp) (x:=X5 Q4 [(.string ⟨#[]⟩)] 1 1 [(0,sv w1)] ma) (Eq.trans rfl rfl);obtain ⟨mc,s2,fmc,nmc,gmc⟩:=bld mb [I ((if b0=true then 1 else 0)),I (IntKind.i64.wrap z2)] (some (2 * Qm)) (by simp) (x:=X5 Qm [(.int .i64 0)] 1 2 [(0,I ((if b0=true then 1 else 0))),(1,I (IntKind.i64.wrap z2))] mb) (Eq.trans rfl rfl);have Lb:=L ma fun _ _=>rfl;have Lc:=L mb fun b hb=>fmb.get b hb;have fall:Fb m.next m mc:=(fa.trans (fmb.mono fa.next)).trans (fmc.mono (Nat.le_trans fa.next fmb.next));have lb:=l0 mb (fa.trans (fmb.mono fa.next));have la:=l0 ma fa;have hq:=q d mb.next ma.next mc _ _ gmc (GA.on gmb fmc (Nat.le_refl _));obtain ⟨acc',m4,ap,hfin⟩:=h.fin fall hne (by omega) Q1u;refine ⟨acc',m4,?_,hfin⟩;have ix:Xa 3 y (I i)=some (pt b (i * 3) ver):=ix;delta L F C qj O H D qi P B N Y X qw A qh;simp only [X9,Nat.zero_add,Nat.reduceAdd,X3,ix,la,ag,X4,c_int,X1a,X1p,Bool.true_and,Xr,X1w,s1,s2,Lb 0 _ rfl,Lb 1 _ rfl,Lb 2 _ rfl,Lc 0 _ rfl,Lc 1 _ rfl,Lc 2 _ rfl,lb,c_bit b0 (d + 2) mb,hq,e2,ap]
def Xfh (N:Nat) (t:Tn) (T:Str):Prop:=∀ (d:Nat) (k0:Value->Value->Value->Mem->Option Rs) (p4 p1:Value),Lp false N t T 1 300 (fun f i p acc m=>Q8z (gD d) k0 f i p acc p4 p1 m) fun p acc m=>Q68 (gD d) k0 p4 p1 acc m
set_option maxHeartbeats 1000000 in
theorem Xxk (ht:Ty N (.l 4) t):∃ T:Str,T.length <= N * 300/\Xfh N t T:=by
 obtain ⟨R,hR⟩:∃ R,R=300:=⟨_,rfl⟩
 unfold Xfh;rw [<- hR];obtain ⟨n,ts,rfl,hn,hl,hty⟩:=ht.list;obtain ⟨T,hT,loop⟩:=lp (k:=false) (J:=1) (r:=10) (ts:=ts) (fun i S=>∃ (b0:Bool) (z1:Int) (z2:Int) (z3:Int) (z4:Int) (z5:Int) (z6:Int) (z7:Int) (z8:Int) (z9:Int),ts[i * 10 + 0]?=some (.v (.bool b0))/\ts[i * 10 + 1]?=some (.v (.int .i64 z1))/\ts[i * 10 + 2]?=some (.v (.int .u32 z2))/\ts[i * 10 + 3]?=some (.v (.int .i64 z3))/\ts[i * 10 + 4]?=some (.v (.int .u32 z4))/\ts[i * 10 + 5]?=some (.v (.int .i64 z5))/\ts[i * 10 + 6]?=some (.v (.int .u32 z6))/\ts[i * 10 + 7]?=some (.v (.int .u32 z7))/\ts[i * 10 + 8]?=some (.v (.int .u32 z8))/\ts[i * 10 + 9]?=some (.v (.int .u32 z9))/\S ≠ []/\∀ (d B B':Nat) (m:Mem) (vi vs:Value),GA B m vi ([(if b0=true then 1 else 0),z1,IntKind.i64.wrap z2,z3,IntKind.i64.wrap z4,z5,IntKind.i64.wrap z6,IntKind.i64.wrap z7,IntKind.i64.wrap z8,IntKind.i64.wrap z9].map I)->GA B' m vs (([]:List Str).map sv)->TA (d + 3) Q0 [vi,vs] m=some (sv S,m)) hn (R:=R) (by omega) fun i hi=>by
  obtain ⟨t0,a0,k0⟩:=hty i 0 _ hi (by decide) rfl;obtain ⟨t1,a1,k1⟩:=hty i 1 _ hi (by decide) rfl;obtain ⟨t2,a2,k2⟩:=hty i 2 _ hi (by decide) rfl;obtain ⟨t3,a3,k3⟩:=hty i 3 _ hi (by decide) rfl;obtain ⟨t4,a4,k4⟩:=hty i 4 _ hi (by decide) rfl;obtain ⟨t5,a5,k5⟩:=hty i 5 _ hi (by decide) rfl;obtain ⟨t6,a6,k6⟩:=hty i 6 _ hi (by decide) rfl;obtain ⟨t7,a7,k7⟩:=hty i 7 _ hi (by decide) rfl;obtain ⟨t8,a8,k8⟩:=hty i 8 _ hi (by decide) rfl;obtain ⟨t9,a9,k9⟩:=hty i 9 _ hi (by decide) rfl;obtain ⟨b0,rfl⟩:=k0.bool;obtain ⟨z1,rfl⟩:=k1.int;obtain ⟨z2,rfl⟩:=k2.int;obtain ⟨z3,rfl⟩:=k3.int;obtain ⟨z4,rfl⟩:=k4.int;obtain ⟨z5,rfl⟩:=k5.int;obtain ⟨z6,rfl⟩:=k6.int;obtain ⟨z7,rfl⟩:=k7.int;obtain ⟨z8,rfl⟩:=k8.int;obtain ⟨z9,rfl⟩:=k9.int;obtain ⟨S,hS,hne,q⟩:=c_dump [(if b0=true then 1 else 0),z1,IntKind.i64.wrap z2,z3,IntKind.i64.wrap z4,z5,IntKind.i64.wrap z6,IntKind.i64.wrap z7,IntKind.i64.wrap z8,IntKind.i64.wrap z9] [] (by simp) (by simp) (by simp);have hSB:SB=262144:=rfl;exact ⟨S,by simp [X2r] at hS; omega,b0,z1,z2,z3,z4,z5,z6,z7,z8,z9,a0,a1,a2,a3,a4,a5,a6,a7,a8,a9,hne,q⟩
 refine ⟨T,hT,fun d k0 p4 p1=>loop _ _ _ (fun _ _ _ _ _=>rfl) ?_⟩;intro i S rb m0 o B t acc m f y b ver cs _ hi hS hQ h ht l0 ag ix hcl hc hld e2;obtain ⟨b0,z1,z2,z3,z4,z5,z6,z7,z8,z9,a0,a1,a2,a3,a4,a5,a6,a7,a8,a9,hne,q⟩:=hQ;have hg:=h.2.1.get;obtain ⟨c0,x0,y0⟩:=hc 0 _ (by decide) a0;obtain ⟨c1,x1,y1⟩:=hc 1 _ (by decide) a1;obtain ⟨c2,x2,y2⟩:=hc 2 _ (by decide) a2;obtain ⟨c3,x3,y3⟩:=hc 3 _ (by decide) a3;obtain ⟨c4,x4,y4⟩:=hc 4 _ (by decide) a4;obtain ⟨c5,x5,y5⟩:=hc 5 _ (by decide) a5;obtain ⟨c6,x6,y6⟩:=hc 6 _ (by decide) a6;obtain ⟨c7,x7,y7⟩:=hc 7 _ (by decide) a7;obtain ⟨c8,x8,y8⟩:=hc 8 _ (by decide) a8;obtain ⟨c9,x9,y9⟩:=hc 9 _ (by decide) a9;cases y0.val;cases y1.val;cases y2.val;cases y3.val;cases y4.val;cases y5.val;cases y6.val;cases y7.val;cases y8.val;cases y9.val;obtain rfl:cs=[.bool b0,.int .i64 z1,.int .u32 z2,.int .i64 z3,.int .u32 z4,.int .i64 z5,.int .u32 z6,.int .u32 z7,.int .u32 z8,.int .u32 z9]:=by
  match cs,hcl with
  | [_,_,_,_,_,_,_,_,_,_],_=>simp at x0 x1 x2 x3 x4 x5 x6 x7 x8 x9; simp [x0,x1,x2,x3,x4,x5,x6,x7,x8,x9]
 obtain ⟨ma,c1,fa,na,L,gat⟩:=X4g (n:=10) m (some (2 * Qlc + 1)) Qgr _ rfl rfl (rfl:[.bool b0,.int .i64 z1,.int .u32 z2,.int .i64 z3,.int .u32 z4,.int .i64 z5,.int .u32 z6,.int .u32 z7,.int .u32 z8,.int .u32 z9].all one=true);have hl:=(hld m hg).1;obtain ⟨mc,s2,fmc,nmc,gmc⟩:=bld ma [I ((if b0=true then 1 else 0)),I (z1),I (IntKind.i64.wrap z2),I (z3),I (IntKind.i64.wrap z4),I (z5),I (IntKind.i64.wrap z6),I (IntKind.i64.wrap z7),I (IntKind.i64.wrap z8),I (IntKind.i64.wrap z9)] (some (2 * Qm)) (by simp) (x:=X5 Qm [(.int .i64 0)] 1 10 [(0,I ((if b0=true then 1 else 0))),(1,I (z1)),(2,I (IntKind.i64.wrap z2)),(3,I (z3)),(4,I (IntKind.i64.wrap z4)),(5,I (z5)),(6,I (IntKind.i64.wrap z6)),(7,I (IntKind.i64.wrap z7)),(8,I (IntKind.i64.wrap z8)),(9,I (IntKind.i64.wrap z9))] ma) (Eq.trans rfl rfl);have Lb:=L ma fun _ _=>rfl;have fall:Fb m.next m mc:=fa.trans (fmc.mono fa.next);have hq:=q d ma.next 0 mc _ _ gmc (GA.none _ _);obtain ⟨acc',m4,ap,hfin⟩:=h.fin fall hne (by omega) Q1u;refine ⟨acc',m4,?_,hfin⟩;have ix:Xa 10 y (I i)=some (pt b (i * 10) ver):=ix;delta L F C qj O H D qi qc P B N T S Y X A qh;simp only [X9,Nat.zero_add,Nat.add_zero,Nat.reduceAdd,X3,ix,l0 m (.refl _ _),ag,X4,c_int,X1a,X1p,Bool.true_and,Xr,X1w,hl,Xp,c1,unt,s2,Lb 0 _ rfl,Lb 1 _ rfl,Lb 2 _ rfl,Lb 3 _ rfl,Lb 4 _ rfl,Lb 5 _ rfl,Lb 6 _ rfl,Lb 7 _ rfl,Lb 8 _ rfl,Lb 9 _ rfl,c_bit b0 (d + 2) ma,hq,e2,ap]
def Xic (N:Nat) (t:Tn) (T:Str):Prop:=∀ (d:Nat) ,Lp false N t T 3 1048964 (fun f i p acc m=>Q90 (gD d) f i p acc m) fun p acc m=>Q6y (gD d) p acc m
set_option maxHeartbeats 1000000 in
theorem Xx3 (ht:Ty N (.l 2) t):∃ T:Str,T.length <= N * 1048964/\Xic N t T:=by
 obtain ⟨R,hR⟩:∃ R,R=1048964:=⟨_,rfl⟩
 unfold Xic;rw [<- hR];obtain ⟨n,ts,rfl,hn,hl,hty⟩:=ht.list;obtain ⟨T,hT,loop⟩:=lp (k:=false) (J:=3) (r:=11) (ts:=ts) (fun i S=>∃ (w0:Str) (w1:Str) (z2:Int) (z3:Int) (b4:Bool) (w5:Str) (w6:Str) (z7:Int) (z8:Int) (z9:Int) (b10:Bool),ts[i * 11 + 0]?=some (.v (sv w0))/\ts[i * 11 + 1]?=some (.v (sv w1))/\ts[i * 11 + 2]?=some (.v (.int .u32 z2))/\ts[i * 11 + 3]?=some (.v (.int .i64 z3))/\ts[i * 11 + 4]?=some (.v (.bool b4))/\ts[i * 11 + 5]?=some (.v (sv w5))/\ts[i * 11 + 6]?=some (.v (sv w6))/\ts[i * 11 + 7]?=some (.v (.int .u8 z7))/\ts[i * 11 + 8]?=some (.v (.int .i64 z8))/\ts[i * 11 + 9]?=some (.v (.int .i64 z9))/\ts[i * 11 + 10]?=some (.v (.bool b10))/\S ≠ []/\∀ (d B B':Nat) (m:Mem) (vi vs:Value),GA B m vi ([IntKind.i64.wrap z2,z3,(if b4=true then 1 else 0),IntKind.i64.wrap z7,z8,z9,(if b10=true then 1 else 0)].map I)->GA B' m vs (([w0,w1,w5,w6]:List Str).map sv)->TA (d + 3) Q0 [vi,vs] m=some (sv S,m)) hn (R:=R) (by omega) fun i hi=>by
  obtain ⟨t0,a0,k0⟩:=hty i 0 _ hi (by decide) rfl;obtain ⟨t1,a1,k1⟩:=hty i 1 _ hi (by decide) rfl;obtain ⟨t2,a2,k2⟩:=hty i 2 _ hi (by decide) rfl;obtain ⟨t3,a3,k3⟩:=hty i 3 _ hi (by decide) rfl;obtain ⟨t4,a4,k4⟩:=hty i 4 _ hi (by decide) rfl;obtain ⟨t5,a5,k5⟩:=hty i 5 _ hi (by decide) rfl;obtain ⟨t6,a6,k6⟩:=hty i 6 _ hi (by decide) rfl;obtain ⟨t7,a7,k7⟩:=hty i 7 _ hi (by decide) rfl;obtain ⟨t8,a8,k8⟩:=hty i 8 _ hi (by decide) rfl;obtain ⟨t9,a9,k9⟩:=hty i 9 _ hi (by decide) rfl;obtain ⟨t10,a10,k10⟩:=hty i 10 _ hi (by decide) rfl;obtain ⟨w0,rfl,h0⟩:=k0.str;obtain ⟨w1,rfl,h1⟩:=k1.str;obtain ⟨z2,rfl⟩:=k2.int;obtain ⟨z3,rfl⟩:=k3.int;obtain ⟨b4,rfl⟩:=k4.bool;obtain ⟨w5,rfl,h5⟩:=k5.str;obtain ⟨w6,rfl,h6⟩:=k6.str;obtain ⟨z7,rfl⟩:=k7.int;obtain ⟨z8,rfl⟩:=k8.int;obtain ⟨z9,rfl⟩:=k9.int;obtain ⟨b10,rfl⟩:=k10.bool;obtain ⟨S,hS,hne,q⟩:=c_dump [IntKind.i64.wrap z2,z3,(if b4=true then 1 else 0),IntKind.i64.wrap z7,z8,z9,(if b10=true then 1 else 0)] [w0,w1,w5,w6] (by simp) (by simp) (by simp [h0,h1,h5,h6]);have hSB:SB=262144:=rfl;exact ⟨S,by simp [X2r] at hS; omega,w0,w1,z2,z3,b4,w5,w6,z7,z8,z9,b10,a0,a1,a2,a3,a4,a5,a6,a7,a8,a9,a10,hne,q⟩
 refine ⟨T,hT,fun d =>loop _ _ _ (fun _ _ _ _ _=>rfl) ?_⟩;intro i S rb m0 o B t acc m f y b ver cs _ hi hS hQ h ht l0 ag ix hcl hc hld e2;obtain ⟨w0,w1,z2,z3,b4,w5,w6,z7,z8,z9,b10,a0,a1,a2,a3,a4,a5,a6,a7,a8,a9,a10,hne,q⟩:=hQ;have hg:=h.2.1.get;obtain ⟨c0,x0,y0⟩:=hc 0 _ (by decide) a0;obtain ⟨c1,x1,y1⟩:=hc 1 _ (by decide) a1;obtain ⟨c2,x2,y2⟩:=hc 2 _ (by decide) a2;obtain ⟨c3,x3,y3⟩:=hc 3 _ (by decide) a3;obtain ⟨c4,x4,y4⟩:=hc 4 _ (by decide) a4;obtain ⟨c5,x5,y5⟩:=hc 5 _ (by decide) a5;obtain ⟨c6,x6,y6⟩:=hc 6 _ (by decide) a6;obtain ⟨c7,x7,y7⟩:=hc 7 _ (by decide) a7;obtain ⟨c8,x8,y8⟩:=hc 8 _ (by decide) a8;obtain ⟨c9,x9,y9⟩:=hc 9 _ (by decide) a9;obtain ⟨c10,x10,y10⟩:=hc 10 _ (by decide) a10;cases y0.val;cases y1.val;cases y2.val;cases y3.val;cases y4.val;cases y5.val;cases y6.val;cases y7.val;cases y8.val;cases y9.val;cases y10.val;obtain rfl:cs=[sv w0,sv w1,.int .u32 z2,.int .i64 z3,.bool b4,sv w5,sv w6,.int .u8 z7,.int .i64 z8,.int .i64 z9,.bool b10]:=by
  match cs,hcl with
  | [_,_,_,_,_,_,_,_,_,_,_],_=>simp at x0 x1 x2 x3 x4 x5 x6 x7 x8 x9 x10; simp [x0,x1,x2,x3,x4,x5,x6,x7,x8,x9,x10]
 obtain ⟨ma,c1,fa,na,L,gat⟩:=X4g (n:=11) m (some (2 * Qma + 1)) Qh3 _ rfl rfl (rfl:[sv w0,sv w1,.int .u32 z2,.int .i64 z3,.bool b4,sv w5,sv w6,.int .u8 z7,.int .i64 z8,.int .i64 z9,.bool b10].all one=true);have hl:=(hld m hg).1;obtain ⟨mb,s1,fmb,nmb,gmb⟩:=bld ma [sv w0,sv w1,sv w5,sv w6] (some (2 * Q4)) (by simp) (x:=X5 Q4 [(.string ⟨#[]⟩)] 1 4 [(0,sv w0),(1,sv w1),(2,sv w5),(3,sv w6)] ma) (Eq.trans rfl rfl);obtain ⟨mc,s2,fmc,nmc,gmc⟩:=bld mb [I (IntKind.i64.wrap z2),I (z3),I ((if b4=true then 1 else 0)),I (IntKind.i64.wrap z7),I (z8),I (z9),I ((if b10=true then 1 else 0))] (some (2 * Qm)) (by simp) (x:=X5 Qm [(.int .i64 0)] 1 7 [(0,I (IntKind.i64.wrap z2)),(1,I (z3)),(2,I ((if b4=true then 1 else 0))),(3,I (IntKind.i64.wrap z7)),(4,I (z8)),(5,I (z9)),(6,I ((if b10=true then 1 else 0)))] mb) (Eq.trans rfl rfl);have Lb:=L ma fun _ _=>rfl;have Lc:=L mb fun b hb=>fmb.get b hb;have fall:Fb m.next m mc:=(fa.trans (fmb.mono fa.next)).trans (fmc.mono (Nat.le_trans fa.next fmb.next));have hq:=q d mb.next ma.next mc _ _ gmc (GA.on gmb fmc (Nat.le_refl _));obtain ⟨acc',m4,ap,hfin⟩:=h.fin fall hne (by omega) Q1u;refine ⟨acc',m4,?_,hfin⟩;have ix:Xa 11 y (I i)=some (pt b (i * 11) ver):=ix;delta L F C qj O H D qi qc P B N T S Y X za A qh;simp only [X9,Nat.zero_add,Nat.add_zero,Nat.reduceAdd,X3,ix,l0 m (.refl _ _),ag,X4,c_int,X1a,X1p,Bool.true_and,Xr,X1w,hl,Xp,c1,unt,s1,s2,Lb 0 _ rfl,Lb 1 _ rfl,Lb 2 _ rfl,Lb 3 _ rfl,Lb 4 _ rfl,Lb 5 _ rfl,Lb 6 _ rfl,Lb 7 _ rfl,Lb 8 _ rfl,Lb 9 _ rfl,Lb 10 _ rfl,Lc 0 _ rfl,Lc 1 _ rfl,Lc 2 _ rfl,Lc 3 _ rfl,Lc 4 _ rfl,Lc 5 _ rfl,Lc 6 _ rfl,Lc 7 _ rfl,Lc 8 _ rfl,Lc 9 _ rfl,Lc 10 _ rfl,c_bit b4 (d + 2) mb,c_bit b10 (d + 2) mb,hq,e2,ap]
def Xdk (N:Nat) (t:Tn) (T:Str):Prop:=∀ (d:Nat) (k0:Value->Value->Value->Mem->Option Rs) (p4 p1:Value),Lp false N t T 1 300 (fun f i p acc m=>Q5g (gD d) k0 f i p acc p4 p1 m) fun p acc m=>Q3a (gD d) k0 p4 p1 acc m
set_option maxHeartbeats 1000000 in
theorem Xw2 (ht:Ty N (.l 8) t):∃ T:Str,T.length <= N * 300/\Xdk N t T:=by
 obtain ⟨R,hR⟩:∃ R,R=300:=⟨_,rfl⟩
 unfold Xdk;rw [<- hR];obtain ⟨n,ts,rfl,hn,hl,hty⟩:=ht.list;obtain ⟨T,hT,loop⟩:=lp (k:=false) (J:=1) (r:=5) (ts:=ts) (fun i S=>∃ (b0:Bool) (z1:Int) (z2:Int) (z3:Int) (z4:Int),ts[i * 5 + 0]?=some (.v (.bool b0))/\ts[i * 5 + 1]?=some (.v (.int .u32 z1))/\ts[i * 5 + 2]?=some (.v (.int .i64 z2))/\ts[i * 5 + 3]?=some (.v (.int .i64 z3))/\ts[i * 5 + 4]?=some (.v (.int .i64 z4))/\S ≠ []/\∀ (d B B':Nat) (m:Mem) (vi vs:Value),GA B m vi ([(if b0=true then 1 else 0),IntKind.i64.wrap z1,z2,z3,z4].map I)->GA B' m vs (([]:List Str).map sv)->TA (d + 3) Q0 [vi,vs] m=some (sv S,m)) hn (R:=R) (by omega) fun i hi=>by
  obtain ⟨t0,a0,k0⟩:=hty i 0 _ hi (by decide) rfl;obtain ⟨t1,a1,k1⟩:=hty i 1 _ hi (by decide) rfl;obtain ⟨t2,a2,k2⟩:=hty i 2 _ hi (by decide) rfl;obtain ⟨t3,a3,k3⟩:=hty i 3 _ hi (by decide) rfl;obtain ⟨t4,a4,k4⟩:=hty i 4 _ hi (by decide) rfl;obtain ⟨b0,rfl⟩:=k0.bool;obtain ⟨z1,rfl⟩:=k1.int;obtain ⟨z2,rfl⟩:=k2.int;obtain ⟨z3,rfl⟩:=k3.int;obtain ⟨z4,rfl⟩:=k4.int;obtain ⟨S,hS,hne,q⟩:=c_dump [(if b0=true then 1 else 0),IntKind.i64.wrap z1,z2,z3,z4] [] (by simp) (by simp) (by simp);have hSB:SB=262144:=rfl;exact ⟨S,by simp [X2r] at hS; omega,b0,z1,z2,z3,z4,a0,a1,a2,a3,a4,hne,q⟩
 refine ⟨T,hT,fun d k0 p4 p1=>loop _ _ _ (fun _ _ _ _ _=>rfl) ?_⟩;intro i S rb m0 o B t acc m f y b ver cs _ hi hS hQ h ht l0 ag ix hcl hc hld e2;obtain ⟨b0,z1,z2,z3,z4,a0,a1,a2,a3,a4,hne,q⟩:=hQ;have hg:=h.2.1.get;obtain ⟨c0,x0,y0⟩:=hc 0 _ (by decide) a0;obtain ⟨c1,x1,y1⟩:=hc 1 _ (by decide) a1;obtain ⟨c2,x2,y2⟩:=hc 2 _ (by decide) a2;obtain ⟨c3,x3,y3⟩:=hc 3 _ (by decide) a3;obtain ⟨c4,x4,y4⟩:=hc 4 _ (by decide) a4;cases y0.val;cases y1.val;cases y2.val;cases y3.val;cases y4.val;obtain rfl:cs=[.bool b0,.int .u32 z1,.int .i64 z2,.int .i64 z3,.int .i64 z4]:=by
  match cs,hcl with
  | [_,_,_,_,_],_=>simp at x0 x1 x2 x3 x4; simp [x0,x1,x2,x3,x4]
 obtain ⟨ma,c1,fa,na,L,gat⟩:=X4g (n:=5) m (some (2 * Qfz + 1)) Q34 _ rfl rfl (rfl:[.bool b0,.int .u32 z1,.int .i64 z2,.int .i64 z3,.int .i64 z4].all one=true);have hl:=(hld m hg).1;obtain ⟨mc,s2,fmc,nmc,gmc⟩:=bld ma [I ((if b0=true then 1 else 0)),I (IntKind.i64.wrap z1),I (z2),I (z3),I (z4)] (some (2 * Qm)) (by simp) (x:=X5 Qm [(.int .i64 0)] 1 5 [(0,I ((if b0=true then 1 else 0))),(1,I (IntKind.i64.wrap z1)),(2,I (z2)),(3,I (z3)),(4,I (z4))] ma) (Eq.trans rfl rfl);have Lb:=L ma fun _ _=>rfl;have fall:Fb m.next m mc:=fa.trans (fmc.mono fa.next);have hq:=q d ma.next 0 mc _ _ gmc (GA.none _ _);obtain ⟨acc',m4,ap,hfin⟩:=h.fin fall hne (by omega) Q1u;refine ⟨acc',m4,?_,hfin⟩;have ix:Xa 5 y (I i)=some (pt b (i * 5) ver):=ix;delta L F C qj O H D qi qc P B N T S Y X A qh;simp only [X9,Nat.zero_add,Nat.add_zero,Nat.reduceAdd,X3,ix,l0 m (.refl _ _),ag,X4,c_int,X1a,X1p,Bool.true_and,Xr,X1w,hl,Xp,c1,unt,s2,Lb 0 _ rfl,Lb 1 _ rfl,Lb 2 _ rfl,Lb 3 _ rfl,Lb 4 _ rfl,c_bit b0 (d + 2) ma,hq,e2,ap]
def Xgl (N:Nat) (t:Tn) (T:Str):Prop:=∀ (d:Nat) (k0:Value->Value->Value->Mem->Option Rs) (p4 p1:Value),Lp true N t T 4 524632 (fun f i p acc m=>Q77 (gD d) k0 f i p acc p4 p1 m) fun p acc m=>Q4u (gD d) k0 p4 p1 acc m
set_option maxHeartbeats 1000000 in
theorem Xy1 (ht:Ty N (.l 18) t):∃ T:Str,T.length <= N * 524632/\Xgl N t T:=by
 obtain ⟨R,hR⟩:∃ R,R=524632:=⟨_,rfl⟩
 unfold Xgl;rw [<- hR];obtain ⟨n,ts,rfl,hn,hl,hty⟩:=ht.list;obtain ⟨T,hT,loop⟩:=lp (k:=true) (J:=4) (r:=6) (ts:=ts) (fun i S=>∃ (z0:Int) (z1:Int) (w2:Str) (w3:Str) (b4:Bool) (b5:Bool),ts[i * 6 + 0]?=some (.v (.int .u32 z0))/\ts[i * 6 + 1]?=some (.v (.int .u32 z1))/\ts[i * 6 + 2]?=some (.v (sv w2))/\ts[i * 6 + 3]?=some (.v (sv w3))/\ts[i * 6 + 4]?=some (.v (.bool b4))/\ts[i * 6 + 5]?=some (.v (.bool b5))/\S ≠ []/\∀ (d B B':Nat) (m:Mem) (vi vs:Value),GA B m vi ([IntKind.i64.wrap z0,IntKind.i64.wrap z1,(if b4=true then 1 else 0),(if b5=true then 1 else 0)].map I)->GA B' m vs (([w2,w3]:List Str).map sv)->TA (d + 3) Q0 [vi,vs] m=some (sv S,m)) hn (R:=R) (by omega) fun i hi=>by
  obtain ⟨t0,a0,k0⟩:=hty i 0 _ hi (by decide) rfl;obtain ⟨t1,a1,k1⟩:=hty i 1 _ hi (by decide) rfl;obtain ⟨t2,a2,k2⟩:=hty i 2 _ hi (by decide) rfl;obtain ⟨t3,a3,k3⟩:=hty i 3 _ hi (by decide) rfl;obtain ⟨t4,a4,k4⟩:=hty i 4 _ hi (by decide) rfl;obtain ⟨t5,a5,k5⟩:=hty i 5 _ hi (by decide) rfl;obtain ⟨z0,rfl⟩:=k0.int;obtain ⟨z1,rfl⟩:=k1.int;obtain ⟨w2,rfl,h2⟩:=k2.str;obtain ⟨w3,rfl,h3⟩:=k3.str;obtain ⟨b4,rfl⟩:=k4.bool;obtain ⟨b5,rfl⟩:=k5.bool;obtain ⟨S,hS,hne,q⟩:=c_dump [IntKind.i64.wrap z0,IntKind.i64.wrap z1,(if b4=true then 1 else 0),(if b5=true then 1 else 0)] [w2,w3] (by simp) (by simp) (by simp [h2,h3]);have hSB:SB=262144:=rfl;exact ⟨S,by simp [X2r] at hS; omega,z0,z1,w2,w3,b4,b5,a0,a1,a2,a3,a4,a5,hne,q⟩
 refine ⟨T,hT,fun d k0 p4 p1=>loop _ _ _ (fun _ _ _ _ _=>rfl) ?_⟩;intro i S rb m0 o B t acc m f y b ver cs _ hi hS hQ h ht l0 ag ix hcl hc hld e2;obtain ⟨z0,z1,w2,w3,b4,b5,a0,a1,a2,a3,a4,a5,hne,q⟩:=hQ;have hg:=h.2.1.get;obtain ⟨c0,x0,y0⟩:=hc 0 _ (by decide) a0;obtain ⟨c1,x1,y1⟩:=hc 1 _ (by decide) a1;obtain ⟨c2,x2,y2⟩:=hc 2 _ (by decide) a2;obtain ⟨c3,x3,y3⟩:=hc 3 _ (by decide) a3;obtain ⟨c4,x4,y4⟩:=hc 4 _ (by decide) a4;obtain ⟨c5,x5,y5⟩:=hc 5 _ (by decide) a5;cases y0.val;cases y1.val;cases y2.val;cases y3.val;cases y4.val;cases y5.val;obtain rfl:cs=[.int .u32 z0,.int .u32 z1,sv w2,sv w3,.bool b4,.bool b5]:=by
  match cs,hcl with
  | [_,_,_,_,_,_],_=>simp at x0 x1 x2 x3 x4 x5; simp [x0,x1,x2,x3,x4,x5]
 obtain ⟨ma,c1,fa,na,L,gat⟩:=X4g (n:=6) m (some (2 * Qc9 + 1)) Qgs _ rfl rfl (rfl:[.int .u32 z0,.int .u32 z1,sv w2,sv w3,.bool b4,.bool b5].all one=true);have hl:=(hld m hg).1;obtain ⟨mb,s1,fmb,nmb,gmb⟩:=bld ma [sv w2,sv w3] (some (2 * Q4)) (by simp) (x:=X5 Q4 [(.string ⟨#[]⟩)] 1 2 [(0,sv w2),(1,sv w3)] ma) (Eq.trans rfl rfl);obtain ⟨mc,s2,fmc,nmc,gmc⟩:=bld mb [I (IntKind.i64.wrap z0),I (IntKind.i64.wrap z1),I ((if b4=true then 1 else 0)),I ((if b5=true then 1 else 0))] (some (2 * Qm)) (by simp) (x:=X5 Qm [(.int .i64 0)] 1 4 [(0,I (IntKind.i64.wrap z0)),(1,I (IntKind.i64.wrap z1)),(2,I ((if b4=true then 1 else 0))),(3,I ((if b5=true then 1 else 0)))] mb) (Eq.trans rfl rfl);have Lb:=L ma fun _ _=>rfl;have Lc:=L mb fun b hb=>fmb.get b hb;have fall:Fb m.next m mc:=(fa.trans (fmb.mono fa.next)).trans (fmc.mono (Nat.le_trans fa.next fmb.next));have hq:=q d mb.next ma.next mc _ _ gmc (GA.on gmb fmc (Nat.le_refl _));obtain ⟨ap,hfin⟩:=h.fis fall (S:=S) (by omega);obtain ⟨rfl,-⟩:=h;refine ⟨(sv (t ++ S)),mc,?_,hfin⟩;have ix:Xa 6 y (I i)=some (pt b (i * 6) ver):=ix;delta L F C qj O H D qi qc P B N T S Y X qt A qh;simp only [X9,Nat.zero_add,Nat.add_zero,Nat.reduceAdd,X3,ix,l0 m (.refl _ _),ag,X4,c_int,X1a,X1p,Bool.true_and,Xr,X1w,hl,Xp,c1,unt,s1,s2,Lb 0 _ rfl,Lb 1 _ rfl,Lb 2 _ rfl,Lb 3 _ rfl,Lb 4 _ rfl,Lb 5 _ rfl,Lc 0 _ rfl,Lc 1 _ rfl,Lc 2 _ rfl,Lc 3 _ rfl,Lc 4 _ rfl,Lc 5 _ rfl,c_bit b4 (d + 2) mb,c_bit b5 (d + 2) mb,hq,e2,ap]
def Xjk (N:Nat) (t:Tn) (T:Str):Prop:=∀ (d:Nat) (k0:Value->Value->Value->Mem->Option Rs) (p4 p1:Value),Lp true N t T 3 300 (fun f i p acc m=>Q78 (gD d) k0 f i p acc p4 p1 m) fun p acc m=>Q4v (gD d) k0 p acc p4 p1 m
set_option maxHeartbeats 1000000 in
theorem X10e (ht:Ty N (.l 17) t):∃ T:Str,T.length <= N * 300/\Xjk N t T:=by
 obtain ⟨R,hR⟩:∃ R,R=300:=⟨_,rfl⟩
 unfold Xjk;rw [<- hR];obtain ⟨n,ts,rfl,hn,hl,hty⟩:=ht.list;obtain ⟨T,hT,loop⟩:=lp (k:=true) (J:=3) (r:=2) (ts:=ts) (fun i S=>∃ (z0:Int) (z1:Int),ts[i * 2 + 0]?=some (.v (.int .u32 z0))/\ts[i * 2 + 1]?=some (.v (.int .i64 z1))/\S ≠ []/\∀ (d B B':Nat) (m:Mem) (vi vs:Value),GA B m vi ([IntKind.i64.wrap z0,z1].map I)->GA B' m vs (([]:List Str).map sv)->TA (d + 3) Q0 [vi,vs] m=some (sv S,m)) hn (R:=R) (by omega) fun i hi=>by
  obtain ⟨t0,a0,k0⟩:=hty i 0 _ hi (by decide) rfl;obtain ⟨t1,a1,k1⟩:=hty i 1 _ hi (by decide) rfl;obtain ⟨z0,rfl⟩:=k0.int;obtain ⟨z1,rfl⟩:=k1.int;obtain ⟨S,hS,hne,q⟩:=c_dump [IntKind.i64.wrap z0,z1] [] (by simp) (by simp) (by simp);have hSB:SB=262144:=rfl;exact ⟨S,by simp [X2r] at hS; omega,z0,z1,a0,a1,hne,q⟩
 refine ⟨T,hT,fun d k0 p4 p1=>loop _ _ _ (fun _ _ _ _ _=>rfl) ?_⟩;intro i S rb m0 o B t acc m f y b ver cs _ hi hS hQ h ht l0 ag ix hcl hc hld e2;obtain ⟨z0,z1,a0,a1,hne,q⟩:=hQ;have hg:=h.2.1.get;obtain ⟨c0,x0,y0⟩:=hc 0 _ (by decide) a0;obtain ⟨c1,x1,y1⟩:=hc 1 _ (by decide) a1;cases y0.val;cases y1.val;obtain rfl:cs=[.int .u32 z0,.int .i64 z1]:=by
  match cs,hcl with
  | [_,_],_=>simp at x0 x1; simp [x0,x1]
 obtain ⟨ma,hma,fa⟩:∃ ma,ma=m/\Fb m.next m ma:=⟨m,rfl,.refl _ _⟩
 have hgn:=h.2.1.next;have L:∀ m',(∀ b,b < ma.next->m'.get b=ma.get b)->∀ (j:Nat) (c:Value),[.int .u32 z0,.int .i64 z1][j]?=some c->X8 false 1 (pt b (i * 2 + j) ver) m'=some c:=fun m' g j c hj=>(hld m' fun b hb=>by rw [g b (by subst hma; omega),hma,hg b hb]).2 j c hj;rw [<- hma];obtain ⟨mc,s2,fmc,nmc,gmc⟩:=bld ma [I (IntKind.i64.wrap z0),I (z1)] (some (2 * Qm)) (by simp) (x:=X5 Qm [(.int .i64 0)] 1 2 [(0,I (IntKind.i64.wrap z0)),(1,I (z1))] ma) (Eq.trans rfl rfl);have Lb:=L ma fun _ _=>rfl;have fall:Fb m.next m mc:=fa.trans (fmc.mono fa.next);have la:=l0 ma fa;have hq:=q d ma.next 0 mc _ _ gmc (GA.none _ _);obtain ⟨ap,hfin⟩:=h.fis fall (S:=S) (by omega);obtain ⟨rfl,-⟩:=h;refine ⟨(sv (t ++ S)),mc,?_,hfin⟩;have ix:Xa 2 y (I i)=some (pt b (i * 2) ver):=ix;delta F C H D B N Y X A qh;simp only [X9,Nat.zero_add,Nat.reduceAdd,X3,ix,la,ag,X4,c_int,X1a,X1p,Bool.true_and,Xr,X1w,s2,Lb 0 _ rfl,Lb 1 _ rfl,hq,e2,ap]
theorem Xb6 {n:Nat} {Z:Nat->Int} {y:Value} {m0:Mem} {B:Nat} (hy:∀ m',lenK 1 y m'=some (I n)) (hr:∀ i,i < n->∃ p z,Xa 1 y (I i)=some p/\Z i=IntKind.i64.wrap z/\∀ m',(∀ b,b < m0.next->m'.get b=m0.get b)->X8 false 1 p m'=some (.int .u32 z)) (hB0:m0.next <= B) (G:Gt):∀ (k i:Nat) (pre:List Int) (acc:Value) (m:Mem) (f:Nat),i + k=n->GA B m acc (pre.map I)->B <= m.next->(∀ b,b < m0.next->m.get b=m0.get b)->k < f->n + pre.length + k <= 4294967296->∃ acc' m',Q25 G f (I i) y acc m=some (acc',m')/\Fb B m m'/\GA B m' acc' ((pre ++ (List.range' i k).map Z).map I)
 | 0,i,pre,acc,m,f,hi,hg,hB,hm,hf,hp=>by
  obtain ⟨f,rfl⟩:∃ j,f=j + 1:=⟨f - 1,by omega⟩
  obtain rfl:i=n:=by omega
  refine ⟨acc,m,?_,.refl _ _,by simpa using hg⟩;unfold Q25;delta F D B N qx X qp A qh;have e1:bin .lss false true .int (I i) (I i)=some (.bool false):=by rw [X2k,decide_eq_false (by omega)]
  simp only [hy,X3,e1,X6];rfl
 | k + 1,i,pre,acc,m,f,hi,hg,hB,hm,hf,hp=>by
  obtain ⟨f,rfl⟩:∃ j,f=j + 1:=⟨f - 1,by omega⟩
  obtain ⟨p,z,p1,p2,p3⟩:=hr i (by omega);have e1:bin .lss false true .int (I i) (I n)=some (.bool true):=by rw [X2k,decide_eq_true (by omega)]
  have e2:=X6r i true true (by omega);obtain ⟨m1,s1,f1,n1,g1⟩:=bld m [I (IntKind.i64.wrap z)] (some (2 * Qm)) (by simp) (x:=X5 Qm [(.int .i64 0)] 1 1 [(0,I (IntKind.i64.wrap z))] m) (Eq.trans rfl rfl);obtain ⟨acc1,m2,a1,f2,g2⟩:=GA.apl (e:=Qm) (bytes:=8) (GA.on hg f1 (Nat.le_refl _)) (by omega) g1 rfl (by simp only [fits,Bool.and_eq_true,Nat.ble_eq,List.length_map,List.length_cons,List.length_nil]; omega);have fa:=(f1.mono hB).trans f2;obtain ⟨acc',m',q1,q2,q3⟩:=Xb6 hy hr hB0 G k (i + 1) (pre ++ [Z i]) acc1 m2 f (by omega) (by rw [List.map_append,p2]; exact g2) (Nat.le_trans hB fa.next) (fun b hb=>by rw [fa.get b (by omega),hm b hb]) (by omega) (by rw [List.length_append,List.length_cons,List.length_nil]; omega);refine ⟨acc',m',?_,fa.trans q2,?_⟩
  ·rw [<- q1];obtain ⟨X,hX⟩:∃ X,Q25 G f (I (i + 1:Nat)) y acc1 m2=X:=⟨_,rfl⟩
   rw [hX];unfold Q25;delta F D B N qx X qp A qh;simp only [hy,X3,e1,X7,p1,p3 m hm,c_int,X4,s1,a1,e2,hX]
  ·rw [List.range'_succ,List.map_cons];simpa using q3
def NumP (t:Tn) (zs:List Int):Prop:=∀ (d B:Nat) (m0 m:Mem) (y:Value),Rd B m0 t y->(∀ b,b < m0.next->m.get b=m0.get b)->m0.next <= m.next->∃ v m',TA (d + 1) Q3p [y] m=some (v,m')/\Fb m.next m m'/\GA m.next m' v (zs.map I)
theorem c_numbers (ht:Ty N (.l 11) t) (hN:N <= 1000000):∃ zs:List Int,zs.length <= N + 1/\NumP t zs:=by
 obtain ⟨n,ts,rfl,hn,hl,hty⟩:=ht.list;have:∀ i,∃ z:Int,i < n->ts[i * 1 + 0]?=some (.v (.int .u32 z)):=fun i=>by
  by_cases h:i < n
  ·obtain ⟨t0,a0,k0⟩:=hty i 0 _ h (by decide) rfl;obtain ⟨z,rfl⟩:=k0.int;exact ⟨z,fun _=>a0⟩
  ·exact ⟨0,fun q=>absurd q h⟩
 obtain ⟨Z,hZ⟩:=Classical.axiomOfChoice this;refine ⟨(n:Int) :: (List.range' 0 n).map fun i=>IntKind.i64.wrap (Z i),by simp; omega,fun d B m0 m y hrd hm hmn=>?_⟩;rw [X6f];obtain ⟨m1,s1,f1,n1,g1⟩:=bld (withLow m m.next) [I n] (some (2 * Qm)) (by simp) (x:=X5 Qm [(.int .i64 0)] 1 1 [(0,I n)] (withLow m m.next)) (Eq.trans rfl rfl);have f1:Fb m.next (withLow m m.next) m1:=f1;have n1:m1.next=m.next + 1:=n1;obtain ⟨v,m2,q1,q2,q3⟩:=Xb6 (Z:=fun i=>IntKind.i64.wrap (Z i)) (B:=m.next) (fun m'=>hrd.len m') (fun i hi=>by
  obtain ⟨b,ver,cs,ix,hb,hcl,hc,hld⟩:=hrd.row hi;obtain ⟨c0,x0,y0⟩:=hc 0 _ (by decide) (hZ i hi);cases y0.val;exact ⟨_,Z i,ix,rfl,fun m' g=>(hld m' g).2 0 _ x0⟩) hmn ⟨TA d,18446744073709551616⟩ n 0 [(n:Int)] _ m1 18446744073709551616 (by omega) g1 (by omega) (fun b hb=>by rw [f1.get b (by omega)]; exact hm b hb) (by omega) (by simp; omega)
 obtain ⟨m3,r1,r2,r3,r4⟩:=Xtw (v:=v) (m1:=m2) (x:=Q2j ⟨TA d,18446744073709551616⟩ y (withLow m m.next)) (by
  delta Q2j Qb1 Qb0 Qaz F N A;simp only [hrd.len,X3,s1,X4];exact q1) (f1.trans q2) (by
  rcases q3 with ⟨q,_⟩ | ⟨_,b,ver,r,ty,_,rfl,h2,_⟩
  ·simp at q
  ·show Nat.blt b m.next=false;cases hb:Nat.blt b m.next with
   | false=>rfl
   | true=>have:=Nat.blt_eq.mp hb; omega)
 exact ⟨v,m3,r1,r2.toFb (Nat.le_refl _),GA.fb q3 (by omega) fun b _ _=>r4 b⟩
theorem Xfr (zs:List Int):(zs.map I).all one=true:=by rw [List.all_map]; exact List.all_eq_true.mpr fun _ _=>rfl
theorem c_redists (ht:Ty N (.l 15) t) (hN:N <= 1000000):∃ T:Str,T.length <= N * 262500 + 30/\∀ (d B:Nat) (m0 m:Mem) (y:Value),Rd B m0 t y->(∀ b,b < m0.next->m.get b=m0.get b)->m0.next <= m.next->TA (d + 4) Q2b [y] m=some (sv T,m):=by
 obtain ⟨R,hR⟩:∃ R,R=262500:=⟨_,rfl⟩
 rw [<- hR];obtain ⟨n,ts,rfl,hn,hl,hty⟩:=ht.list;obtain ⟨T,hT,loop⟩:=Xzb (n:=n) (R:=R) (fun i S=>∃ (z0 z1 z2:Int) (w3:Str),ts[i * 4 + 0]?=some (.v (.int .u8 z0))/\ts[i * 4 + 1]?=some (.v (.int .i64 z1))/\ts[i * 4 + 2]?=some (.v (.int .u8 z2))/\ts[i * 4 + 3]?=some (.v (sv w3))/\∀ (d B B':Nat) (m:Mem) (vi vs:Value),GA B m vi ([IntKind.i64.wrap z0,z1,IntKind.i64.wrap z2].map I)->GA B' m vs ([w3].map sv)->TA (d + 3) Q0 [vi,vs] m=some (sv S,m)) fun i hi=>by
  obtain ⟨t0,a0,k0⟩:=hty i 0 _ hi (by decide) rfl;obtain ⟨t1,a1,k1⟩:=hty i 1 _ hi (by decide) rfl;obtain ⟨t2,a2,k2⟩:=hty i 2 _ hi (by decide) rfl;obtain ⟨t3,a3,k3⟩:=hty i 3 _ hi (by decide) rfl;obtain ⟨z0,rfl⟩:=k0.int;obtain ⟨z1,rfl⟩:=k1.int;obtain ⟨z2,rfl⟩:=k2.int;obtain ⟨w3,rfl,h3⟩:=k3.str;obtain ⟨S,hS,_,q⟩:=c_dump [IntKind.i64.wrap z0,z1,IntKind.i64.wrap z2] [w3] (by simp) (by simp) (by simp [h3]);have hSB:SB=262144:=rfl;exact ⟨S,by simp [X2r] at hS; omega,z0,z1,z2,w3,a0,a1,a2,a3,q⟩
 obtain ⟨S0,hS0,_,q0⟩:=c_dump [(n:Int)] [] (by simp) (by simp) (by simp);have hs2:n * R <= N * R:=Nat.mul_le_mul_right _ hn;have hs3:N * R <= 1000000 * R:=Nat.mul_le_mul_right _ hN;refine ⟨S0 ++ T,by simp [X2r] at hS0; simp; omega,fun d B m0 m y hrd hm hmn=>?_⟩;rw [X4n];obtain ⟨m1,s1,f1,n1,g1⟩:=bld (withLow m m.next) [I n] (some (2 * Qm)) (by simp) (x:=X5 Qm [(.int .i64 0)] 1 1 [(0,I n)] (withLow m m.next)) (Eq.trans rfl rfl);have f1:Fb m.next (withLow m m.next) m1:=f1;have hq0:=q0 d m.next 0 m1 _ _ g1 (GA.none _ _);have A1:∀ (t:Str) (acc:Value) (m':Mem) (f:Nat),acc=sv t/\Fb m.next (withLow m m.next) m'->Qs (⟨TA (d + 3),18446744073709551616⟩) (f + 1) (I n) y acc m'=some (acc,m'):=fun t acc m f h=>by
  have e1:bin .lss false true .int (I n) (I n)=some (.bool false):=by rw [X2k,decide_eq_false (by omega)]
  unfold Qs;delta F C H D B N Y X qw A qh;simp only [hrd.len,X3,e1,X6];rfl
 obtain ⟨acc',m2,l1,l2,l3⟩:=loop (fun f i acc m=>Qs (⟨TA (d + 3),18446744073709551616⟩) f i y acc m) (fun acc m=>some (acc,m)) (fun t acc m'=>acc=sv t/\Fb m.next (withLow m m.next) m') A1 (fun i hi S hS hQ t acc m' f h ht=>by
  obtain ⟨z0,z1,z2,w3,a0,a1,a2,a3,q⟩:=hQ;obtain ⟨rfl,fm⟩:=h;have e1:bin .lss false true .int (I i) (I n)=some (.bool true):=by rw [X2k,decide_eq_true (by omega)]
  have e2:=X6r i true true (by omega);obtain ⟨b,ver,cs,ix,hb,hcl,hc,hld⟩:=hrd.row hi;obtain ⟨c0,x0,y0⟩:=hc 0 _ (by decide) a0;obtain ⟨c1,x1,y1⟩:=hc 1 _ (by decide) a1;obtain ⟨c2,x2,y2⟩:=hc 2 _ (by decide) a2;obtain ⟨c3,x3,y3⟩:=hc 3 _ (by decide) a3;cases y0.val;cases y1.val;cases y2.val;cases y3.val;have hg:∀ b,b < m0.next->m'.get b=m0.get b:=fun b hb=>by rw [fm.get b (by omega)]; exact hm b hb
  obtain ⟨ma,s2,fa,na,ga⟩:=bld m' [I (IntKind.i64.wrap z0),I z1,I (IntKind.i64.wrap z2)] (some (2 * Qm)) (by simp) (x:=X5 Qm [(.int .i64 0)] 1 3 [(0,I (IntKind.i64.wrap z0)),(1,I z1),(2,I (IntKind.i64.wrap z2))] m') (Eq.trans rfl rfl);obtain ⟨mb,s3,fb,nb,gb⟩:=bld ma [sv w3] (some (2 * Q4)) (by simp) (x:=X5 Q4 [(.string ⟨#[]⟩)] 1 1 [(0,sv w3)] ma) (Eq.trans rfl rfl);have hq:=q d m'.next ma.next mb _ _ (GA.on ga fb (Nat.le_refl _)) gb;have hmn':=fm.next;have hmn':m.next <= m'.next:=hmn';have L1:∀ (j:Nat) (c:Value),cs[j]?=some c->X8 false 1 (pt b (i * 4 + j) ver) m'=some c:=(hld m' hg).2;have L2:∀ (j:Nat) (c:Value),cs[j]?=some c->X8 false 1 (pt b (i * 4 + j) ver) ma=some c:=(hld ma fun b hb=>by rw [fa.get b (by omega),hg b hb]).2;have ix:Xa 4 y (I i)=some (pt b (i * 4) ver):=ix;refine ⟨sv (t ++ S),mb,?_,rfl,(fm.trans (fa.mono hmn')).trans (fb.mono (Nat.le_trans hmn' fa.next))⟩;show Qs ⟨TA (d + 3),18446744073709551616⟩ (f + 1) (I i) y (sv t) m'=Qs ⟨TA (d + 3),18446744073709551616⟩ f (I (i + 1:Nat)) y (sv (t ++ S)) mb;obtain ⟨X,hX⟩:∃ X,Qs ⟨TA (d + 3),18446744073709551616⟩ f (I (i + 1:Nat)) y (sv (t ++ S)) mb=X:=⟨_,rfl⟩
  rw [hX];unfold Qs;delta F C H D B N Y X qw A qh;have l0:X8 false 1 (pt b (i * 4) ver) m'=some (.int .u8 z0):=L1 0 _ x0;simp only [hrd.len,X3,e1,X7,ix,X9,Nat.add_zero,l0,L1 1 _ x1,L1 2 _ x2,c_int,X4,s2,L2 3 _ x3,s3,hq,Q48 _ _ t S (by omega),e2,hX]) S0 (sv S0) m1 18446744073709551616 ⟨rfl,f1⟩ (by simp [X2r] at hS0; omega) (by omega)
 subst l2;refine X16 (m1:=m2) ?_ l3 rfl;delta Q2a Q8n Q8m Q8l F C N A;simp only [hrd.len,X3,s1,X4,hq0];exact l1
def Xgh (N:Nat) (t:Tn) (T:Str):Prop:=∀ (d:Nat) (k0:Value->Value->Value->Mem->Option Rs) (p4 p1:Value),Lp false N t T 1 (22 * N + 100) (fun f i p acc m=>Q5f (gD d) k0 f i p acc p4 p1 m) fun p acc m=>Q3l (gD d) k0 p4 p1 acc m
set_option maxHeartbeats 1000000 in
theorem Xxu (ht:Ty N (.l 10) t) (hN:N <= 100000):∃ T:Str,T.length <= N * (22 * N + 100)/\Xgh N t T:=by
 obtain ⟨R,hR⟩:∃ R,R=22 * N + 100:=⟨_,rfl⟩
 unfold Xgh;rw [<- hR];obtain ⟨n,ts,rfl,hn,hl,hty⟩:=ht.list;obtain ⟨T,hT,loop⟩:=lp (k:=false) (J:=1) (r:=2) (ts:=ts) (fun i S=>∃ (b0:Bool) (n1:Nat) (ts1:List Tn) (zs:List Int),ts[i * 2 + 0]?=some (.v (.bool b0))/\ts[i * 2 + 1]?=some (.l (rowL 11) n1 ts1)/\NumP (.l (rowL 11) n1 ts1) zs/\zs.length <= N + 1/\S ≠ []/\∀ (d B B':Nat) (m:Mem) (vi vs:Value),GA B m vi (((if b0=true then 1 else 0) :: zs).map I)->GA B' m vs (([]:List Str).map sv)->TA (d + 3) Q0 [vi,vs] m=some (sv S,m)) hn (R:=R) (by omega) fun i hi=>by
  obtain ⟨t0,a0,k0⟩:=hty i 0 _ hi (by decide) rfl;obtain ⟨t1,a1,k1⟩:=hty i 1 _ hi (by decide) rfl;obtain ⟨b0,rfl⟩:=k0.bool;obtain ⟨zs,hz,q1⟩:=c_numbers k1 (by omega);obtain ⟨n1,ts1,rfl,-⟩:=k1.list;obtain ⟨S,hS,hne,q⟩:=c_dump ((if b0=true then 1 else 0) :: zs) [] (by simp; omega) (by simp) (by simp);exact ⟨S,by simp [X2r] at hS; omega,b0,n1,ts1,zs,a0,a1,q1,hz,hne,q⟩
 refine ⟨T,hT,fun d k0 p4 p1=>loop _ _ _ (fun _ _ _ _ _=>rfl) ?_⟩;intro i S rb m0 o B t acc m f y b ver cs _ hi hS hQ h ht l0 ag ix hcl hc hld e2;obtain ⟨b0,n1,ts1,zs,a0,a1,q1,hz,hne,q⟩:=hQ;have hg:=h.2.1.get;have hgn:=h.2.1.next;obtain ⟨c0,x0,y0⟩:=hc 0 _ (by decide) a0;obtain ⟨c1,x1,y1⟩:=hc 1 _ (by decide) a1;cases y0.val;have L:∀ (j:Nat) (c:Value),cs[j]?=some c->X8 false 1 (pt b (i * 2 + j) ver) m=some c:=(hld m hg).2;obtain ⟨mb,s2,fb,nb,gb⟩:=bld m [I (if b0=true then 1 else 0)] (some (2 * Qm)) (by simp) (x:=X5 Qm [(.int .i64 0)] 1 1 [(0,I (if b0=true then 1 else 0))] m) (Eq.trans rfl rfl);obtain ⟨v1,mc,s3,fc,gc⟩:=q1 (d + 2) B m0 mb c1 y1 (fun b hb=>by rw [fb.get b (by omega),hg b hb]) (by omega);have hcn:=fc.next;obtain ⟨v2,md,s4,fd,gd⟩:=GA.apl (e:=Qm) (bytes:=8) (GA.on gb fc (Nat.le_refl _)) (by omega) gc (Xfr _) (by simp only [fits,Bool.and_eq_true,Nat.ble_eq,List.length_map,List.length_cons,List.length_nil]; omega);have hq:=q d m.next 0 md _ _ gd (GA.none _ _);obtain ⟨acc',m4,ap,hfin⟩:=h.fin ((fb.trans (fc.mono (by omega))).trans fd) hne (by omega) Q1u;refine ⟨acc',m4,?_,hfin⟩;have ix:Xa 2 y (I i)=some (pt b (i * 2) ver):=ix;delta L F C qj O H D qi P B N Y X A qh;simp only [X9,Nat.reduceAdd,Nat.zero_add,X3,ix,l0 m (.refl _ _),ag,X4,X1w,y1.again,L 0 _ x0,L 1 _ x1,c_bit b0 (d + 2) m,s2,s3,s4,hq,ap,e2,Bool.true_and,Xr]
def Xaa (N:Nat) (t:Tn) (T:Str):Prop:=∀ (d:Nat) (k0:Value->Value->Value->Mem->Option Rs) (p4 p1:Value),Lp false N t T 1 (44 * N + 525000) (fun f i p acc m=>Q46 (gD d) k0 f i p acc p4 p1 m) fun p acc m=>Q2n (gD d) k0 p4 p1 acc m
set_option maxHeartbeats 1000000 in
theorem Xsf (ht:Ty N (.l 13) t) (hN:N <= 100000):∃ T:Str,T.length <= N * (44 * N + 525000)/\Xaa N t T:=by
 obtain ⟨R,hR⟩:∃ R,R=44 * N + 525000:=⟨_,rfl⟩
 unfold Xaa;rw [<- hR];obtain ⟨n,ts,rfl,hn,hl,hty⟩:=ht.list;obtain ⟨T,hT,loop⟩:=lp (k:=false) (J:=1) (r:=15) (ts:=ts) (fun i S=>∃ (z0:Int) (z1:Int) (w2:Str) (w3:Str) (z4:Int) (z5:Int) (z6:Int) (z7:Int) (z8:Int) (z9:Int) (b11:Bool) (z13:Int) (z14:Int) (n1 n2:Nat) (ts1 ts2:List Tn) (zs zr:List Int),ts[i * 15 + 0]?=some (.v (.int .i64 z0))/\ts[i * 15 + 1]?=some (.v (.int .u8 z1))/\ts[i * 15 + 2]?=some (.v (sv w2))/\ts[i * 15 + 3]?=some (.v (sv w3))/\ts[i * 15 + 4]?=some (.v (.int .i64 z4))/\ts[i * 15 + 5]?=some (.v (.int .i64 z5))/\ts[i * 15 + 6]?=some (.v (.int .i64 z6))/\ts[i * 15 + 7]?=some (.v (.int .i64 z7))/\ts[i * 15 + 8]?=some (.v (.int .i64 z8))/\ts[i * 15 + 9]?=some (.v (.int .i64 z9))/\ts[i * 15 + 11]?=some (.v (.bool b11))/\ts[i * 15 + 13]?=some (.v (.int .u32 z13))/\ts[i * 15 + 14]?=some (.v (.int .i64 z14))/\ts[i * 15 + 10]?=some (.l (rowL 11) n1 ts1)/\ts[i * 15 + 12]?=some (.l (rowL 11) n2 ts2)/\NumP (.l (rowL 11) n1 ts1) zs/\NumP (.l (rowL 11) n2 ts2) zr/\zs.length <= N + 1/\zr.length <= N + 1/\S ≠ []/\∀ (d B B':Nat) (m:Mem) (vi vs:Value),GA B m vi (([z0,IntKind.i64.wrap z1,z4,z5,z6,z7,z8,z9,(if b11=true then 1 else 0),IntKind.i64.wrap z13,z14] ++ zs ++ zr).map I)->GA B' m vs ([w2,w3].map sv)->TA (d + 3) Q0 [vi,vs] m=some (sv S,m)) hn (R:=R) (by omega) fun i hi=>by
  obtain ⟨t0,a0,k0⟩:=hty i 0 _ hi (by decide) rfl;obtain ⟨t1,a1,k1⟩:=hty i 1 _ hi (by decide) rfl;obtain ⟨t2,a2,k2⟩:=hty i 2 _ hi (by decide) rfl;obtain ⟨t3,a3,k3⟩:=hty i 3 _ hi (by decide) rfl;obtain ⟨t4,a4,k4⟩:=hty i 4 _ hi (by decide) rfl;obtain ⟨t5,a5,k5⟩:=hty i 5 _ hi (by decide) rfl;obtain ⟨t6,a6,k6⟩:=hty i 6 _ hi (by decide) rfl;obtain ⟨t7,a7,k7⟩:=hty i 7 _ hi (by decide) rfl;obtain ⟨t8,a8,k8⟩:=hty i 8 _ hi (by decide) rfl;obtain ⟨t9,a9,k9⟩:=hty i 9 _ hi (by decide) rfl;obtain ⟨t10,a10,k10⟩:=hty i 10 _ hi (by decide) rfl;obtain ⟨t11,a11,k11⟩:=hty i 11 _ hi (by decide) rfl;obtain ⟨t12,a12,k12⟩:=hty i 12 _ hi (by decide) rfl;obtain ⟨t13,a13,k13⟩:=hty i 13 _ hi (by decide) rfl;obtain ⟨t14,a14,k14⟩:=hty i 14 _ hi (by decide) rfl;obtain ⟨z0,rfl⟩:=k0.int;obtain ⟨z1,rfl⟩:=k1.int;obtain ⟨w2,rfl,h2⟩:=k2.str;obtain ⟨w3,rfl,h3⟩:=k3.str;obtain ⟨z4,rfl⟩:=k4.int;obtain ⟨z5,rfl⟩:=k5.int;obtain ⟨z6,rfl⟩:=k6.int;obtain ⟨z7,rfl⟩:=k7.int;obtain ⟨z8,rfl⟩:=k8.int;obtain ⟨z9,rfl⟩:=k9.int;obtain ⟨b11,rfl⟩:=k11.bool;obtain ⟨z13,rfl⟩:=k13.int;obtain ⟨z14,rfl⟩:=k14.int;obtain ⟨zs,hz,q1⟩:=c_numbers k10 (by omega);obtain ⟨zr,hz2,q2⟩:=c_numbers k12 (by omega);obtain ⟨n1,ts1,rfl,-⟩:=k10.list;obtain ⟨n2,ts2,rfl,-⟩:=k12.list;obtain ⟨S,hS,hne,q⟩:=c_dump ([z0,IntKind.i64.wrap z1,z4,z5,z6,z7,z8,z9,(if b11=true then 1 else 0),IntKind.i64.wrap z13,z14] ++ zs ++ zr) [w2,w3] (by simp; omega) (by simp) (by simp [h2,h3]);have hSB:SB=262144:=rfl;exact ⟨S,by simp [X2r] at hS; omega,z0,z1,w2,w3,z4,z5,z6,z7,z8,z9,b11,z13,z14,n1,n2,ts1,ts2,zs,zr,a0,a1,a2,a3,a4,a5,a6,a7,a8,a9,a11,a13,a14,a10,a12,q1,q2,hz,hz2,hne,q⟩
 refine ⟨T,hT,fun d k0 p4 p1=>loop _ _ _ (fun _ _ _ _ _=>rfl) ?_⟩;intro i S rb m0 o B t acc m f y b ver cs _ hi hS hQ h ht l0 ag ix hcl hc hld e2;obtain ⟨z0,z1,w2,w3,z4,z5,z6,z7,z8,z9,b11,z13,z14,n1,n2,ts1,ts2,zs,zr,a0,a1,a2,a3,a4,a5,a6,a7,a8,a9,a11,a13,a14,a10,a12,q1,q2,hz,hz2,hne,q⟩:=hQ;have hg:=h.2.1.get;have hgn:=h.2.1.next;obtain ⟨c0,x0,y0⟩:=hc 0 _ (by decide) a0;obtain ⟨c1,x1,y1⟩:=hc 1 _ (by decide) a1;obtain ⟨c2,x2,y2⟩:=hc 2 _ (by decide) a2;obtain ⟨c3,x3,y3⟩:=hc 3 _ (by decide) a3;obtain ⟨c4,x4,y4⟩:=hc 4 _ (by decide) a4;obtain ⟨c5,x5,y5⟩:=hc 5 _ (by decide) a5;obtain ⟨c6,x6,y6⟩:=hc 6 _ (by decide) a6;obtain ⟨c7,x7,y7⟩:=hc 7 _ (by decide) a7;obtain ⟨c8,x8,y8⟩:=hc 8 _ (by decide) a8;obtain ⟨c9,x9,y9⟩:=hc 9 _ (by decide) a9;obtain ⟨c10,x10,y10⟩:=hc 10 _ (by decide) a10;obtain ⟨c11,x11,y11⟩:=hc 11 _ (by decide) a11;obtain ⟨c12,x12,y12⟩:=hc 12 _ (by decide) a12;obtain ⟨c13,x13,y13⟩:=hc 13 _ (by decide) a13;obtain ⟨c14,x14,y14⟩:=hc 14 _ (by decide) a14;cases y0.val;cases y1.val;cases y2.val;cases y3.val;cases y4.val;cases y5.val;cases y6.val;cases y7.val;cases y8.val;cases y9.val;cases y11.val;cases y13.val;cases y14.val;obtain rfl:cs=[.int .i64 z0,.int .u8 z1,sv w2,sv w3,.int .i64 z4,.int .i64 z5,.int .i64 z6,.int .i64 z7,.int .i64 z8,.int .i64 z9,c10,.bool b11,c12,.int .u32 z13,.int .i64 z14]:=by
  match cs,hcl with
  | [_,_,_,_,_,_,_,_,_,_,_,_,_,_,_],_=>simp at x0 x1 x2 x3 x4 x5 x6 x7 x8 x9 x10 x11 x12 x13 x14; simp [x0,x1,x2,x3,x4,x5,x6,x7,x8,x9,x10,x11,x12,x13,x14]
 have hl:=(hld m hg).1;obtain ⟨ma,c1,fa,na,L,gat⟩:=X4g (n:=15) m (some (2 * Qlk + 1)) Qgj [.int .i64 z0,.int .u8 z1,sv w2,sv w3,.int .i64 z4,.int .i64 z5,.int .i64 z6,.int .i64 z7,.int .i64 z8,.int .i64 z9,c10,.bool b11,c12,.int .u32 z13,.int .i64 z14] rfl rfl (by simp only [List.all_cons,List.all_nil,y10.one,y12.one] <;> rfl);obtain ⟨mb,s2,fb,nb,gb⟩:=bld ma [I (z0),I (IntKind.i64.wrap z1),I (z4),I (z5),I (z6),I (z7),I (z8),I (z9),I ((if b11=true then 1 else 0)),I (IntKind.i64.wrap z13),I (z14)] (some (2 * Qm)) (by simp) (x:=X5 Qm [(.int .i64 0)] 1 11 [(0,I (z0)),(1,I (IntKind.i64.wrap z1)),(2,I (z4)),(3,I (z5)),(4,I (z6)),(5,I (z7)),(6,I (z8)),(7,I (z9)),(8,I ((if b11=true then 1 else 0))),(9,I (IntKind.i64.wrap z13)),(10,I (z14))] ma) (Eq.trans rfl rfl);have fab:=fa.trans (fb.mono fa.next);obtain ⟨v1,mc,s3,fc,gc⟩:=q1 (d + 2) B m0 mb c10 y10 (fun b hb=>by rw [fab.get b (by omega),hg b hb]) (by omega);have hcn:=fc.next;obtain ⟨v2,md,s4,fd,gd⟩:=GA.apl (e:=Qm) (bytes:=8) (GA.on gb fc (Nat.le_refl _)) (by omega) gc (Xfr _) (by simp only [fits,Bool.and_eq_true,Nat.ble_eq,List.length_map,List.length_cons,List.length_nil]; omega);have hdn:=fd.next;have fad:=(fc.mono (by omega:ma.next <= mb.next)).trans fd;have fd0:=fab.trans (fad.mono fa.next);obtain ⟨v3,me,s5,fe,ge⟩:=q2 (d + 2) B m0 md c12 y12 (fun b hb=>by rw [fd0.get b (by omega),hg b hb]) (by omega);have hen:=fe.next;obtain ⟨v4,mf,s6,ff,gf⟩:=GA.apl (e:=Qm) (bytes:=8) (GA.on gd fe (Nat.le_refl _)) (by omega) ge (Xfr _) (by simp only [fits,Bool.and_eq_true,Nat.ble_eq,List.length_append,List.length_map,List.length_cons,List.length_nil]; omega);have hfn:=ff.next;have faf:=(fe.mono (by omega:ma.next <= md.next)).trans ff;obtain ⟨mh,s7,fh,nh,gh⟩:=bld mf [sv w2,sv w3] (some (2 * Q4)) (by simp) (x:=X5 Q4 [(.string ⟨#[]⟩)] 1 2 [(0,sv w2),(1,sv w3)] mf) (Eq.trans rfl rfl);have hq:=q d ma.next mf.next mh _ _ (by rw [List.map_append,List.map_append]; exact GA.on gf fh (Nat.le_refl _)) gh;have La:=L ma fun _ _=>rfl;have Lb:=L mb fun b hb=>fb.get b hb;have Ld:=L md fun b hb=>by rw [fad.get b (by omega),fb.get b hb]
 have Lf:=L mf fun b hb=>by rw [faf.get b (by omega),fad.get b (by omega),fb.get b hb]
 obtain ⟨acc',m4,ap,hfin⟩:=h.fin (((fd0.trans (faf.mono fa.next))).trans (fh.mono (by omega))) hne (by omega) Q1u;refine ⟨acc',m4,?_,hfin⟩;have ix:Xa 15 y (I i)=some (pt b (i * 15) ver):=ix;delta L F C qj O H D qi qc P B N T S Y X qt A qh;simp only [X9,Nat.reduceAdd,Nat.zero_add,X3,ix,l0 m (.refl _ _),ag,hl,Xp,c1,unt,X4,X1w,X1a,X1p,c_int,La 0 _ rfl,La 1 _ rfl,La 4 _ rfl,La 5 _ rfl,La 6 _ rfl,La 7 _ rfl,La 8 _ rfl,La 9 _ rfl,La 11 _ rfl,La 13 _ rfl,La 14 _ rfl,c_bit b11 (d + 2) ma,s2,Lb 10 _ rfl,s3,s4,Ld 12 _ rfl,s5,s6,Lf 2 _ rfl,Lf 3 _ rfl,s7,hq,ap,e2,Bool.true_and,Xr]
def Xe3 (N:Nat) (t:Tn) (T:Str):Prop:=∀ (d:Nat),Lp false N t T 4 (N * 300 + 262500) (fun f i p acc m=>Q18 (gD d) f i p acc m) (fun p acc m=>Q6x (gD d) p acc m) fun rb n=>rb < n
set_option maxHeartbeats 1000000 in
theorem Xsy (ht:Ty N (.l 3) t) (hN:N <= 100000):∃ T:Str,T.length <= N * (N * 300 + 262500)/\Xe3 N t T:=by
 obtain ⟨R,hR⟩:∃ R,R=N * 300 + 262500:=⟨_,rfl⟩
 unfold Xe3;rw [<- hR];obtain ⟨n,ts,rfl,hn,hl,hty⟩:=ht.list;obtain ⟨T,hT,loop⟩:=lp (C:=fun rb n=>rb < n) (k:=false) (J:=4) (r:=2) (ts:=ts) (fun i S=>∃ (w0:Str) (n1:Nat) (ts1:List Tn) (S0 T1:Str),ts[i * 2 + 0]?=some (.v (sv w0))/\ts[i * 2 + 1]?=some (.l (rowL 4) n1 ts1)/\S=S0 ++ T1/\S0.length <= 262500/\S0 ≠ []/\(∀ (d B B':Nat) (m:Mem) (vi vs:Value),GA B m vi ([(n1:Int)].map I)->GA B' m vs ([w0].map sv)->TA (d + 3) Q0 [vi,vs] m=some (sv S0,m))/\Xfh N (.l (rowL 4) n1 ts1) T1) hn (R:=R) (by omega) fun i hi=>by
  obtain ⟨t0,a0,k0⟩:=hty i 0 _ hi (by decide) rfl;obtain ⟨t1,a1,k1⟩:=hty i 1 _ hi (by decide) rfl;obtain ⟨w0,rfl,h0⟩:=k0.str;obtain ⟨T1,hT1,q1⟩:=Xxk k1;obtain ⟨n1,ts1,rfl,-⟩:=k1.list;obtain ⟨S0,hS,hne,q⟩:=c_dump [(n1:Int)] [w0] (by simp) (by simp) (by simp [h0]);have hSB:SB=262144:=rfl;have hS0:S0.length <= 262500:=by simp [X2r] at hS; omega
  exact ⟨S0 ++ T1,by rw [List.length_append]; omega,w0,n1,ts1,S0,T1,a0,a1,rfl,hS0,hne,q,q1⟩
 refine ⟨T,hT,fun d=>loop _ _ _ (fun _ _ _ _ _=>rfl) ?_⟩;intro i S rb m0 o B t acc m f y b ver cs hC hi hS hQ h ht l0 ag ix hcl hc hld e2;obtain ⟨w0,n1,ts1,S0,T1,a0,a1,rfl,hS0,hne,q,q1⟩:=hQ;have hg:=h.2.1.get;have hgn:=h.2.1.next;obtain ⟨c0,x0,y0⟩:=hc 0 _ (by decide) a0;obtain ⟨c1,x1,y1⟩:=hc 1 _ (by decide) a1;cases y0.val;obtain rfl:cs=[sv w0,c1]:=by
  match cs,hcl with
  | [_,_],_=>simp at x0 x1; simp [x0,x1]
 have hl:=(hld m hg).1;obtain ⟨ma,s1,fa,na,L,gat⟩:=X4g (n:=2) m (some (2 * Qlj + 1)) Qgi [sv w0,c1] rfl rfl (by simp only [List.all_cons,List.all_nil,y1.one] <;> rfl);obtain ⟨mb,s2,fb,nb,gb⟩:=bld ma [I n1] (some (2 * Qm)) (by simp) (x:=X5 Qm [(.int .i64 0)] 1 1 [(0,I n1)] ma) (Eq.trans rfl rfl);obtain ⟨mc,s3,fc,nc,gc⟩:=bld mb [sv w0] (some (2 * Q4)) (by simp) (x:=X5 Q4 [(.string ⟨#[]⟩)] 1 1 [(0,sv w0)] mb) (Eq.trans rfl rfl);have hq:=q d ma.next mb.next mc _ _ (GA.on gb fc (Nat.le_refl _)) gc;have fac:=(fb.trans (fc.mono fb.next))
 have hin:=h.inn (fa.trans (fac.mono fa.next)) (rc:=m.next) ((fac.get m.next (by omega)).trans gat) (Nat.le_refl _) (by omega);rw [List.length_append] at hS;obtain ⟨acc1,m4,ap,hi1⟩:=hin.fin (.refl _ _) hne (by omega) Q1u;obtain ⟨acc2,m5,k1,k2⟩:=q1 d (Q18 (gD d) f) (I i) (pt rb 0 0) B m.next m0 _ _ c1 trivial y1 rfl (t ++ S0) acc1 m4 (gD d).rds hi1 (by rw [List.length_append]; omega) (by show N < 18446744073709551616; omega);refine ⟨acc2,m5,?_,by rw [<- List.append_assoc]; exact h.out k2 hC⟩;have ix:Xa 2 y (I i)=some (pt b (i * 2) ver):=ix;have La:=L ma fun _ _=>rfl;have Lb:=L mb fun b hb=>fb.get b hb;delta Qcw Qcv Qcu Qct F C H qc N T S Y qw A;simp only [X9,Nat.reduceAdd,Nat.zero_add,X3,ix,l0 m (.refl _ _),ag,hl,Xp,s1,unt,X4,X1w,X1a,X1p,y1.again,y1.len,La 0 _ rfl,La 1 _ rfl,Lb 0 _ rfl,Lb 1 _ rfl,s2,s3,hq,ap,Bool.true_and,Xr];refine k1.trans ?_;show Q68 _ _ _ _ _ _=_;delta Q68 B X A;simp only [e2,X3]
def Xhz (N:Nat) (t:Tn) (T:Str):Prop:=∀ (d:Nat),Lp false N t T 7 (N * 300 + 262500) (fun f i p acc m=>Qp (gD d) f i p acc m) (fun p acc m=>Q3m (gD d) p acc m) fun rb n=>rb < n
set_option maxHeartbeats 1000000 in
theorem Xve (ht:Ty N (.l 7) t) (hN:N <= 100000):∃ T:Str,T.length <= N * (N * 300 + 262500)/\Xhz N t T:=by
 obtain ⟨R,hR⟩:∃ R,R=N * 300 + 262500:=⟨_,rfl⟩
 unfold Xhz;rw [<- hR];obtain ⟨n,ts,rfl,hn,hl,hty⟩:=ht.list;obtain ⟨T,hT,loop⟩:=lp (C:=fun rb n=>rb < n) (k:=false) (J:=7) (r:=2) (ts:=ts) (fun i S=>∃ (w0:Str) (n1:Nat) (ts1:List Tn) (S0 T1:Str),ts[i * 2 + 0]?=some (.v (sv w0))/\ts[i * 2 + 1]?=some (.l (rowL 8) n1 ts1)/\S=S0 ++ T1/\S0.length <= 262500/\S0 ≠ []/\(∀ (d B B':Nat) (m:Mem) (vi vs:Value),GA B m vi ([(n1:Int)].map I)->GA B' m vs ([w0].map sv)->TA (d + 3) Q0 [vi,vs] m=some (sv S0,m))/\Xdk N (.l (rowL 8) n1 ts1) T1) hn (R:=R) (by omega) fun i hi=>by
  obtain ⟨t0,a0,k0⟩:=hty i 0 _ hi (by decide) rfl;obtain ⟨t1,a1,k1⟩:=hty i 1 _ hi (by decide) rfl;obtain ⟨w0,rfl,h0⟩:=k0.str;obtain ⟨T1,hT1,q1⟩:=Xw2 k1;obtain ⟨n1,ts1,rfl,-⟩:=k1.list;obtain ⟨S0,hS,hne,q⟩:=c_dump [(n1:Int)] [w0] (by simp) (by simp) (by simp [h0]);have hSB:SB=262144:=rfl;have hS0:S0.length <= 262500:=by simp [X2r] at hS; omega
  exact ⟨S0 ++ T1,by rw [List.length_append]; omega,w0,n1,ts1,S0,T1,a0,a1,rfl,hS0,hne,q,q1⟩
 refine ⟨T,hT,fun d=>loop _ _ _ (fun _ _ _ _ _=>rfl) ?_⟩;intro i S rb m0 o B t acc m f y b ver cs hC hi hS hQ h ht l0 ag ix hcl hc hld e2;obtain ⟨w0,n1,ts1,S0,T1,a0,a1,rfl,hS0,hne,q,q1⟩:=hQ;have hg:=h.2.1.get;have hgn:=h.2.1.next;obtain ⟨c0,x0,y0⟩:=hc 0 _ (by decide) a0;obtain ⟨c1,x1,y1⟩:=hc 1 _ (by decide) a1;cases y0.val;obtain rfl:cs=[sv w0,c1]:=by
  match cs,hcl with
  | [_,_],_=>simp at x0 x1; simp [x0,x1]
 have hl:=(hld m hg).1;obtain ⟨ma,s1,fa,na,L,gat⟩:=X4g (n:=2) m (some (2 * Q6e + 1)) Qay [sv w0,c1] rfl rfl (by simp only [List.all_cons,List.all_nil,y1.one] <;> rfl);obtain ⟨mb,s2,fb,nb,gb⟩:=bld ma [I n1] (some (2 * Qm)) (by simp) (x:=X5 Qm [(.int .i64 0)] 1 1 [(0,I n1)] ma) (Eq.trans rfl rfl);obtain ⟨mc,s3,fc,nc,gc⟩:=bld mb [sv w0] (some (2 * Q4)) (by simp) (x:=X5 Q4 [(.string ⟨#[]⟩)] 1 1 [(0,sv w0)] mb) (Eq.trans rfl rfl);have hq:=q d ma.next mb.next mc _ _ (GA.on gb fc (Nat.le_refl _)) gc;have fac:=(fb.trans (fc.mono fb.next))
 have hin:=h.inn (fa.trans (fac.mono fa.next)) (rc:=m.next) ((fac.get m.next (by omega)).trans gat) (Nat.le_refl _) (by omega);rw [List.length_append] at hS;obtain ⟨acc1,m4,ap,hi1⟩:=hin.fin (.refl _ _) hne (by omega) Q1u;obtain ⟨acc2,m5,k1,k2⟩:=q1 d (Qp (gD d) f) (I i) (pt rb 0 0) B m.next m0 _ _ c1 trivial y1 rfl (t ++ S0) acc1 m4 (gD d).rds hi1 (by rw [List.length_append]; omega) (by show N < 18446744073709551616; omega);refine ⟨acc2,m5,?_,by rw [<- List.append_assoc]; exact h.out k2 hC⟩;have ix:Xa 2 y (I i)=some (pt b (i * 2) ver):=ix;have La:=L ma fun _ _=>rfl;have Lb:=L mb fun b hb=>fb.get b hb;delta Q9k Q9j Q9i Q9h F C H qc N T S Y qw A;simp only [X9,Nat.reduceAdd,Nat.zero_add,X3,ix,l0 m (.refl _ _),ag,hl,Xp,s1,unt,X4,X1w,X1a,X1p,y1.again,y1.len,La 0 _ rfl,La 1 _ rfl,Lb 0 _ rfl,Lb 1 _ rfl,s2,s3,hq,ap,Bool.true_and,Xr];refine k1.trans ?_;show Q3a _ _ _ _ _ _=_;delta Q3a B X A;simp only [e2,X3]
def Xhy (N:Nat) (t:Tn) (T:Str):Prop:=∀ (d:Nat),Lp false N t T 8 (N * (22 * N + 100) + 262500) (fun f i p acc m=>Qr (gD d) f i p acc m) (fun p acc m=>Q3k (gD d) acc m) fun rb n=>rb < n
set_option maxHeartbeats 1000000 in
theorem Xwc (ht:Ty N (.l 9) t) (hN:N <= 100000):∃ T:Str,T.length <= N * (N * (22 * N + 100) + 262500)/\Xhy N t T:=by
 obtain ⟨R,hR⟩:∃ R,R=N * (22 * N + 100) + 262500:=⟨_,rfl⟩
 unfold Xhy;rw [<- hR];obtain ⟨n,ts,rfl,hn,hl,hty⟩:=ht.list;obtain ⟨T,hT,loop⟩:=lp (C:=fun rb n=>rb < n) (k:=false) (J:=8) (r:=2) (ts:=ts) (fun i S=>∃ (w0:Str) (n1:Nat) (ts1:List Tn) (S0 T1:Str),ts[i * 2 + 0]?=some (.v (sv w0))/\ts[i * 2 + 1]?=some (.l (rowL 10) n1 ts1)/\S=S0 ++ T1/\S0.length <= 262500/\S0 ≠ []/\(∀ (d B B':Nat) (m:Mem) (vi vs:Value),GA B m vi ([(n1:Int)].map I)->GA B' m vs ([w0].map sv)->TA (d + 3) Q0 [vi,vs] m=some (sv S0,m))/\Xgh N (.l (rowL 10) n1 ts1) T1) hn (R:=R) (by omega) fun i hi=>by
  obtain ⟨t0,a0,k0⟩:=hty i 0 _ hi (by decide) rfl;obtain ⟨t1,a1,k1⟩:=hty i 1 _ hi (by decide) rfl;obtain ⟨w0,rfl,h0⟩:=k0.str;obtain ⟨T1,hT1,q1⟩:=Xxu k1 hN;obtain ⟨n1,ts1,rfl,-⟩:=k1.list;obtain ⟨S0,hS,hne,q⟩:=c_dump [(n1:Int)] [w0] (by simp) (by simp) (by simp [h0]);have hSB:SB=262144:=rfl;have hS0:S0.length <= 262500:=by simp [X2r] at hS; omega
  exact ⟨S0 ++ T1,by rw [List.length_append]; omega,w0,n1,ts1,S0,T1,a0,a1,rfl,hS0,hne,q,q1⟩
 refine ⟨T,hT,fun d=>loop _ _ _ (fun _ _ _ _ _=>rfl) ?_⟩;intro i S rb m0 o B t acc m f y b ver cs hC hi hS hQ h ht l0 ag ix hcl hc hld e2;obtain ⟨w0,n1,ts1,S0,T1,a0,a1,rfl,hS0,hne,q,q1⟩:=hQ;have hg:=h.2.1.get;have hgn:=h.2.1.next;obtain ⟨c0,x0,y0⟩:=hc 0 _ (by decide) a0;obtain ⟨c1,x1,y1⟩:=hc 1 _ (by decide) a1;cases y0.val;obtain rfl:cs=[sv w0,c1]:=by
  match cs,hcl with
  | [_,_],_=>simp at x0 x1; simp [x0,x1]
 have hl:=(hld m hg).1;obtain ⟨ma,s1,fa,na,L,gat⟩:=X4g (n:=2) m (some (2 * Q3z + 1)) Q8d [sv w0,c1] rfl rfl (by simp only [List.all_cons,List.all_nil,y1.one] <;> rfl);obtain ⟨mb,s2,fb,nb,gb⟩:=bld ma [I n1] (some (2 * Qm)) (by simp) (x:=X5 Qm [(.int .i64 0)] 1 1 [(0,I n1)] ma) (Eq.trans rfl rfl);obtain ⟨mc,s3,fc,nc,gc⟩:=bld mb [sv w0] (some (2 * Q4)) (by simp) (x:=X5 Q4 [(.string ⟨#[]⟩)] 1 1 [(0,sv w0)] mb) (Eq.trans rfl rfl);have hq:=q d ma.next mb.next mc _ _ (GA.on gb fc (Nat.le_refl _)) gc;have fac:=(fb.trans (fc.mono fb.next))
 have hin:=h.inn (fa.trans (fac.mono fa.next)) (rc:=m.next) ((fac.get m.next (by omega)).trans gat) (Nat.le_refl _) (by omega);rw [List.length_append] at hS;obtain ⟨acc1,m4,ap,hi1⟩:=hin.fin (.refl _ _) hne (by omega) Q1u;obtain ⟨acc2,m5,k1,k2⟩:=q1 d (Qr (gD d) f) (I i) (pt rb 0 0) B m.next m0 _ _ c1 trivial y1 rfl (t ++ S0) acc1 m4 (gD d).rds hi1 (by rw [List.length_append]; omega) (by show N < 18446744073709551616; omega);refine ⟨acc2,m5,?_,by rw [<- List.append_assoc]; exact h.out k2 hC⟩;have ix:Xa 2 y (I i)=some (pt b (i * 2) ver):=ix;have La:=L ma fun _ _=>rfl;have Lb:=L mb fun b hb=>fb.get b hb;delta Qa2 Qa1 Qa0 Q9g F C H qc N T S Y qw A;simp only [X9,Nat.reduceAdd,Nat.zero_add,X3,ix,l0 m (.refl _ _),ag,hl,Xp,s1,unt,X4,X1w,X1a,X1p,y1.again,y1.len,La 0 _ rfl,La 1 _ rfl,Lb 0 _ rfl,Lb 1 _ rfl,s2,s3,hq,ap,Bool.true_and,Xr];refine k1.trans ?_;show Q3l _ _ _ _ _ _=_;delta Q3l B X A;simp only [e2,X3]
def Xe4 (N:Nat) (t:Tn) (T:Str):Prop:=∀ (d:Nat),Lp false N t T 9 (N * (44 * N + 525000) + 262500) (fun f i p acc m=>Ql (gD d) f i p acc m) (fun p acc m=>Q2m (gD d) acc m) fun rb n=>rb < n
set_option maxHeartbeats 1000000 in
theorem Xsq (ht:Ty N (.l 12) t) (hN:N <= 100000):∃ T:Str,T.length <= N * (N * (44 * N + 525000) + 262500)/\Xe4 N t T:=by
 obtain ⟨R,hR⟩:∃ R,R=N * (44 * N + 525000) + 262500:=⟨_,rfl⟩
 unfold Xe4;rw [<- hR];obtain ⟨n,ts,rfl,hn,hl,hty⟩:=ht.list;obtain ⟨T,hT,loop⟩:=lp (C:=fun rb n=>rb < n) (k:=false) (J:=9) (r:=3) (ts:=ts) (fun i S=>∃ (w0:Str) (b2:Bool) (n1:Nat) (ts1:List Tn) (S0 T1:Str),ts[i * 3 + 0]?=some (.v (sv w0))/\ts[i * 3 + 1]?=some (.l (rowL 13) n1 ts1)/\ts[i * 3 + 2]?=some (.v (.bool b2))/\S=S0 ++ T1/\S0.length <= 262500/\S0 ≠ []/\(∀ (d B B':Nat) (m:Mem) (vi vs:Value),GA B m vi ([(n1:Int),(if b2=true then 1 else 0)].map I)->GA B' m vs ([w0].map sv)->TA (d + 3) Q0 [vi,vs] m=some (sv S0,m))/\Xaa N (.l (rowL 13) n1 ts1) T1) hn (R:=R) (by omega) fun i hi=>by
  obtain ⟨t0,a0,k0⟩:=hty i 0 _ hi (by decide) rfl;obtain ⟨t1,a1,k1⟩:=hty i 1 _ hi (by decide) rfl;obtain ⟨t2,a2,k2⟩:=hty i 2 _ hi (by decide) rfl;obtain ⟨b2,rfl⟩:=k2.bool;obtain ⟨w0,rfl,h0⟩:=k0.str;obtain ⟨T1,hT1,q1⟩:=Xsf k1 hN;obtain ⟨n1,ts1,rfl,-⟩:=k1.list;obtain ⟨S0,hS,hne,q⟩:=c_dump [(n1:Int),(if b2=true then 1 else 0)] [w0] (by simp) (by simp) (by simp [h0]);have hSB:SB=262144:=rfl;have hS0:S0.length <= 262500:=by simp [X2r] at hS; omega
  exact ⟨S0 ++ T1,by rw [List.length_append]; omega,w0,b2,n1,ts1,S0,T1,a0,a1,a2,rfl,hS0,hne,q,q1⟩
 refine ⟨T,hT,fun d=>loop _ _ _ (fun _ _ _ _ _=>rfl) ?_⟩;intro i S rb m0 o B t acc m f y b ver cs hC hi hS hQ h ht l0 ag ix hcl hc hld e2;obtain ⟨w0,b2,n1,ts1,S0,T1,a0,a1,a2,rfl,hS0,hne,q,q1⟩:=hQ;have hg:=h.2.1.get;have hgn:=h.2.1.next;obtain ⟨c0,x0,y0⟩:=hc 0 _ (by decide) a0;obtain ⟨c1,x1,y1⟩:=hc 1 _ (by decide) a1;obtain ⟨c2,x2,y2⟩:=hc 2 _ (by decide) a2;cases y2.val;cases y0.val;obtain rfl:cs=[sv w0,c1,.bool b2]:=by
  match cs,hcl with
  | [_,_,_],_=>simp at x0 x1 x2; simp [x0,x1,x2]
 have hl:=(hld m hg).1;obtain ⟨ma,s1,fa,na,L,gat⟩:=X4g (n:=3) m (some (2 * Q5y + 1)) Q93 [sv w0,c1,.bool b2] rfl rfl (by simp only [List.all_cons,List.all_nil,y1.one] <;> rfl);obtain ⟨mb,s2,fb,nb,gb⟩:=bld ma [sv w0] (some (2 * Q4)) (by simp) (x:=X5 Q4 [(.string ⟨#[]⟩)] 1 1 [(0,sv w0)] ma) (Eq.trans rfl rfl);obtain ⟨mc,s3,fc,nc,gc⟩:=bld mb [I n1,I (if b2=true then 1 else 0)] (some (2 * Qm)) (by simp) (x:=X5 Qm [(.int .i64 0)] 1 2 [(0,I n1),(1,I (if b2=true then 1 else 0))] mb) (Eq.trans rfl rfl);have hq:=q d mb.next ma.next mc _ _ gc (GA.on gb fc (Nat.le_refl _));have fac:=(fb.trans (fc.mono fb.next))
 have hin:=h.inn (fa.trans (fac.mono fa.next)) (rc:=m.next) ((fac.get m.next (by omega)).trans gat) (Nat.le_refl _) (by omega);rw [List.length_append] at hS;obtain ⟨acc1,m4,ap,hi1⟩:=hin.fin (.refl _ _) hne (by omega) Q1u;obtain ⟨acc2,m5,k1,k2⟩:=q1 d (Ql (gD d) f) (I i) (pt rb 0 0) B m.next m0 _ _ c1 trivial y1 rfl (t ++ S0) acc1 m4 (gD d).rds hi1 (by rw [List.length_append]; omega) (by show N < 18446744073709551616; omega);refine ⟨acc2,m5,?_,by rw [<- List.append_assoc]; exact h.out k2 hC⟩;have ix:Xa 3 y (I i)=some (pt b (i * 3) ver):=ix;have La:=L ma fun _ _=>rfl;have Lb:=L mb fun b hb=>fb.get b hb;delta Q83 Q82 Q81 Q80 L F C qj O H qi qc P N T S Y qw A;simp only [X9,Nat.reduceAdd,Nat.zero_add,X3,ix,l0 m (.refl _ _),ag,hl,Xp,s1,unt,X4,X1w,X1a,X1p,y1.again,y1.len,La 0 _ rfl,La 1 _ rfl,Lb 0 _ rfl,Lb 1 _ rfl,La 2 _ rfl,c_bit b2 (d + 2) mb,s2,s3,hq,ap,Bool.true_and,Xr];refine k1.trans ?_;show Q2n _ _ _ _ _ _=_;delta Q2n B X A;simp only [e2,X3]
def RedP (t:Tn) (T:Str):Prop:=∀ (d B:Nat) (m0 m:Mem) (y:Value),Rd B m0 t y->(∀ b,b < m0.next->m.get b=m0.get b)->m0.next <= m.next->TA (d + 4) Q2b [y] m=some (sv T,m)
def Xma (N:Nat) (t:Tn) (T:Str):Prop:=∀ (d:Nat),Lp true N t T 10 (N * 262500 + 263000) (fun f i p acc m=>Q76 (gD (d + 1)) f i p acc m) (fun p acc m=>Q47 (gD (d + 1)) acc m) fun rb n=>rb < n
set_option maxHeartbeats 1000000 in
theorem Xyf (ht:Ty N (.l 14) t) (hN:N <= 100000):∃ T:Str,T.length <= N * (N * 262500 + 263000)/\Xma N t T:=by
 obtain ⟨R,hR⟩:∃ R,R=N * 262500 + 263000:=⟨_,rfl⟩
 unfold Xma;rw [<- hR];obtain ⟨n,ts,rfl,hn,hl,hty⟩:=ht.list;obtain ⟨T,hT,loop⟩:=lp (C:=fun rb n=>rb < n) (k:=true) (J:=10) (r:=3) (ts:=ts) (fun i S=>∃ (w0:Str) (z1:Int) (n2:Nat) (ts2:List Tn) (S0 T1:Str),ts[i * 3 + 0]?=some (.v (sv w0))/\ts[i * 3 + 1]?=some (.v (.int .u32 z1))/\ts[i * 3 + 2]?=some (.l (rowL 15) n2 ts2)/\S=S0 ++ T1/\(∀ (d B B':Nat) (m:Mem) (vi vs:Value),GA B m vi ([IntKind.i64.wrap z1].map I)->GA B' m vs ([w0].map sv)->TA (d + 3) Q0 [vi,vs] m=some (sv S0,m))/\RedP (.l (rowL 15) n2 ts2) T1) hn (R:=R) (by omega) fun i hi=>by
  obtain ⟨t0,a0,k0⟩:=hty i 0 _ hi (by decide) rfl;obtain ⟨t1,a1,k1⟩:=hty i 1 _ hi (by decide) rfl;obtain ⟨t2,a2,k2⟩:=hty i 2 _ hi (by decide) rfl;obtain ⟨w0,rfl,h0⟩:=k0.str;obtain ⟨z1,rfl⟩:=k1.int;obtain ⟨T1,hT1,q1⟩:=c_redists k2 (by omega);obtain ⟨n2,ts2,rfl,-⟩:=k2.list;obtain ⟨S0,hS,_,q⟩:=c_dump [IntKind.i64.wrap z1] [w0] (by simp) (by simp) (by simp [h0]);have hSB:SB=262144:=rfl;have hS0:S0.length <= 262500:=by simp [X2r] at hS; omega
  exact ⟨S0 ++ T1,by rw [List.length_append]; omega,w0,z1,n2,ts2,S0,T1,a0,a1,a2,rfl,q,q1⟩
 refine ⟨T,hT,fun d=>loop _ _ _ (fun _ _ _ _ _=>rfl) ?_⟩;intro i S rb m0 o B t acc m f y b ver cs hC hi hS hQ h ht l0 ag ix hcl hc hld e2;obtain ⟨w0,z1,n2,ts2,S0,T1,a0,a1,a2,rfl,q,q1⟩:=hQ;have hg:=h.2.1.get;have hgn:=h.2.1.next;obtain ⟨c0,x0,y0⟩:=hc 0 _ (by decide) a0;obtain ⟨c1,x1,y1⟩:=hc 1 _ (by decide) a1;obtain ⟨c2,x2,y2⟩:=hc 2 _ (by decide) a2;cases y0.val;cases y1.val;obtain ⟨ma,s1,fa,na,ga⟩:=bld m [I (IntKind.i64.wrap z1)] (some (2 * Qm)) (by simp) (x:=X5 Qm [(.int .i64 0)] 1 1 [(0,I (IntKind.i64.wrap z1))] m) (Eq.trans rfl rfl);obtain ⟨mb,s2,fb,nb,gb⟩:=bld ma [sv w0] (some (2 * Q4)) (by simp) (x:=X5 Q4 [(.string ⟨#[]⟩)] 1 1 [(0,sv w0)] ma) (Eq.trans rfl rfl);have fall:=fa.trans (fb.mono fa.next);have hq:=q (d + 1) m.next ma.next mb _ _ (GA.on ga fb (Nat.le_refl _)) gb;have hq1:=q1 d B m0 mb c2 y2 (fun b hb=>by rw [fall.get b (by omega),hg b hb]) (by omega);rw [List.length_append] at hS;obtain ⟨ap,hi1⟩:=h.fis fall (S:=S0) (by omega);obtain ⟨ap2,hfin⟩:=hi1.fis (.refl _ _) (S:=T1) (by rw [List.length_append]; omega);obtain ⟨rfl,-⟩:=h;refine ⟨_,mb,?_,by rw [<- List.append_assoc]; exact hfin⟩;have L1:∀ (j:Nat) (c:Value),cs[j]?=some c->X8 false 1 (pt b (i * 3 + j) ver) m=some c:=(hld m hg).2;have L2:∀ (j:Nat) (c:Value),cs[j]?=some c->X8 false 1 (pt b (i * 3 + j) ver) ma=some c:=(hld ma fun b hb=>by rw [fa.get b (by omega),hg b hb]).2;have L3:∀ (j:Nat) (c:Value),cs[j]?=some c->X8 false 1 (pt b (i * 3 + j) ver) mb=some c:=(hld mb fun b hb=>by rw [fall.get b (by omega),hg b hb]).2;have ix:Xa 3 y (I i)=some (pt b (i * 3) ver):=ix;delta L F C qj O H D qi P B N Y X qw A qh;simp only [X9,Nat.reduceAdd,Nat.zero_add,X3,ix,l0 m (.refl _ _),l0 ma fa,l0 mb fall,ag,X4,c_int,L1 1 _ x1,s1,L2 0 _ x0,s2,L3 2 _ x2,y2.again,hq,hq1,ap,ap2,e2,Bool.true_and,Xr]
def Xpf (N:Nat) (t:Tn) (T:Str):Prop:=∀ (d:Nat),Lp true N t T 11 (N * 787500 + 263000) (fun f i p acc m=>Qc (gD (d + 1)) f i p acc m) (fun p acc m=>Q4t (gD (d + 1)) acc m) fun rb n=>rb < n
set_option maxHeartbeats 1000000 in
theorem X108 (ht:Ty N (.l 16) t) (hN:N <= 100000):∃ T:Str,T.length <= N * (N * 787500 + 263000)/\Xpf N t T:=by
 obtain ⟨R,hR⟩:∃ R,R=N * 787500 + 263000:=⟨_,rfl⟩
 unfold Xpf;rw [<- hR];obtain ⟨n,ts,rfl,hn,hl,hty⟩:=ht.list;obtain ⟨T,hT,loop⟩:=lp (C:=fun rb n=>rb < n) (k:=true) (J:=11) (r:=6) (ts:=ts) (fun i S=>∃ (w0:Str) (z1 z2:Int) (n3 n4 n5:Nat) (ts3 ts4 ts5:List Tn) (S0 T5 T3 T4:Str),ts[i * 6 + 0]?=some (.v (sv w0))/\ts[i * 6 + 1]?=some (.v (.int .u32 z1))/\ts[i * 6 + 2]?=some (.v (.int .u32 z2))/\ts[i * 6 + 3]?=some (.l (rowL 17) n3 ts3)/\ts[i * 6 + 4]?=some (.l (rowL 18) n4 ts4)/\ts[i * 6 + 5]?=some (.l (rowL 15) n5 ts5)/\S=S0 ++ T5 ++ T3 ++ T4/\S0.length <= 262500/\T5.length <= N * 262500 + 30/\T3.length <= N * 300/\T4.length <= N * 524632/\(∀ (d B B':Nat) (m:Mem) (vi vs:Value),GA B m vi ([IntKind.i64.wrap z1,IntKind.i64.wrap z2,(n3:Int),(n4:Int)].map I)->GA B' m vs ([w0].map sv)->TA (d + 3) Q0 [vi,vs] m=some (sv S0,m))/\RedP (.l (rowL 15) n5 ts5) T5/\Xjk N (.l (rowL 17) n3 ts3) T3/\Xgl N (.l (rowL 18) n4 ts4) T4) hn (R:=R) (by omega) fun i hi=>by
  obtain ⟨t0,a0,k0⟩:=hty i 0 _ hi (by decide) rfl;obtain ⟨t1,a1,k1⟩:=hty i 1 _ hi (by decide) rfl;obtain ⟨t2,a2,k2⟩:=hty i 2 _ hi (by decide) rfl;obtain ⟨t3,a3,k3⟩:=hty i 3 _ hi (by decide) rfl;obtain ⟨t4,a4,k4⟩:=hty i 4 _ hi (by decide) rfl;obtain ⟨t5,a5,k5⟩:=hty i 5 _ hi (by decide) rfl;obtain ⟨w0,rfl,h0⟩:=k0.str;obtain ⟨z1,rfl⟩:=k1.int;obtain ⟨z2,rfl⟩:=k2.int;obtain ⟨T5,hT5,q5⟩:=c_redists k5 (by omega);obtain ⟨T3,hT3,q3⟩:=X10e k3;obtain ⟨T4,hT4,q4⟩:=Xy1 k4;obtain ⟨n3,ts3,rfl,-⟩:=k3.list;obtain ⟨n4,ts4,rfl,-⟩:=k4.list;obtain ⟨n5,ts5,rfl,-⟩:=k5.list;obtain ⟨S0,hS,_,q⟩:=c_dump [IntKind.i64.wrap z1,IntKind.i64.wrap z2,(n3:Int),(n4:Int)] [w0] (by simp) (by simp) (by simp [h0]);have hSB:SB=262144:=rfl;have hS0:S0.length <= 262500:=by simp [X2r] at hS; omega
  exact ⟨S0 ++ T5 ++ T3 ++ T4,by simp only [List.length_append]; omega,w0,z1,z2,n3,n4,n5,ts3,ts4,ts5,S0,T5,T3,T4,a0,a1,a2,a3,a4,a5,rfl,hS0,hT5,hT3,hT4,q,q5,q3,q4⟩
 refine ⟨T,hT,fun d=>loop _ _ _ (fun _ _ _ _ _=>rfl) ?_⟩;intro i S rb m0 o B t acc m f y b ver cs hC hi hS hQ h ht l0 ag ix hcl hc hld e2;obtain ⟨w0,z1,z2,n3,n4,n5,ts3,ts4,ts5,S0,T5,T3,T4,a0,a1,a2,a3,a4,a5,rfl,hS0,hT5,hT3,hT4,q,q5,q3,q4⟩:=hQ;have hg:=h.2.1.get;have hgn:=h.2.1.next;obtain ⟨c0,x0,y0⟩:=hc 0 _ (by decide) a0;obtain ⟨c1,x1,y1⟩:=hc 1 _ (by decide) a1;obtain ⟨c2,x2,y2⟩:=hc 2 _ (by decide) a2;obtain ⟨c3,x3,y3⟩:=hc 3 _ (by decide) a3;obtain ⟨c4,x4,y4⟩:=hc 4 _ (by decide) a4;obtain ⟨c5,x5,y5⟩:=hc 5 _ (by decide) a5;cases y0.val;cases y1.val;cases y2.val;obtain rfl:cs=[sv w0,.int .u32 z1,.int .u32 z2,c3,c4,c5]:=by
  match cs,hcl with
  | [_,_,_,_,_,_],_=>simp at x0 x1 x2 x3 x4 x5; simp [x0,x1,x2,x3,x4,x5]
 have hl:=(hld m hg).1;obtain ⟨ma,s1,fa,na,L,gat⟩:=X4g (n:=6) m (some (2 * Qo8 + 1)) Qk1 [sv w0,.int .u32 z1,.int .u32 z2,c3,c4,c5] rfl rfl (by simp only [List.all_cons,List.all_nil,y3.one,y4.one,y5.one] <;> rfl);obtain ⟨mb,s2,fb,nb,gb⟩:=bld ma [I (IntKind.i64.wrap z1),I (IntKind.i64.wrap z2),I n3,I n4] (some (2 * Qm)) (by simp) (x:=X5 Qm [(.int .i64 0)] 1 4 [(0,I (IntKind.i64.wrap z1)),(1,I (IntKind.i64.wrap z2)),(2,I n3),(3,I n4)] ma) (Eq.trans rfl rfl);obtain ⟨mc,s3,fc,nc,gc⟩:=bld mb [sv w0] (some (2 * Q4)) (by simp) (x:=X5 Q4 [(.string ⟨#[]⟩)] 1 1 [(0,sv w0)] mb) (Eq.trans rfl rfl);have hq:=q (d + 1) ma.next mb.next mc _ _ (GA.on gb fc (Nat.le_refl _)) gc;have fac:=(fb.trans (fc.mono fb.next))
 have fall:=fa.trans (fac.mono fa.next);have hq1:=q5 d B m0 mc c5 y5 (fun b hb=>by rw [fall.get b (by omega),hg b hb]) (by omega);have hin:=h.inn fall (rc:=m.next) ((fac.get m.next (by omega)).trans gat) (Nat.le_refl _) (by omega);simp only [List.length_append] at hS;obtain ⟨ap,hi1⟩:=hin.fis (.refl _ _) (S:=S0) (by omega);obtain ⟨ap2,hi2⟩:=hi1.fis (.refl _ _) (S:=T5) (by rw [List.length_append]; omega);obtain ⟨acc3,m4,k1,k2⟩:=q3 (d + 1) (Qc (gD (d + 1)) f) (I i) (pt rb 0 0) B m.next m0 _ _ c3 trivial y3 rfl (t ++ S0 ++ T5) _ mc (gD (d + 1)).rds hi2 (by simp only [List.length_append]; omega) (by show N < 18446744073709551616; omega);obtain ⟨acc4,m5,k3,k4⟩:=q4 (d + 1) (Qc (gD (d + 1)) f) (I i) (pt rb 0 0) B m.next m0 _ _ c4 trivial y4 rfl (t ++ S0 ++ T5 ++ T3) acc3 m4 (gD (d + 1)).rds k2 (by simp only [List.length_append]; omega) (by show N < 18446744073709551616; omega);have hout:=h.out k4 hC;obtain ⟨rfl,-⟩:=h;refine ⟨acc4,m5,?_,by simp only [List.append_assoc] at hout ⊢; exact hout⟩;have ix:Xa 6 y (I i)=some (pt b (i * 6) ver):=ix;have La:=L ma fun _ _=>rfl;have Lb:=L mb fun b hb=>fb.get b hb;have Lc:=L mc fun b hb=>fac.get b hb;delta Qbb Qba Qb9 Qam L F C qj O H qi qc P B N T S Y qw A;simp only [X9,Nat.reduceAdd,Nat.zero_add,X3,ix,l0 m (.refl _ _),ag,hl,Xp,s1,unt,X4,c_int,y3.len,y4.len,y5.again,La 1 _ rfl,La 2 _ rfl,La 3 _ rfl,La 4 _ rfl,s2,Lb 0 _ rfl,s3,Lc 5 _ rfl,hq,ap,hq1,ap2,Bool.true_and,Xr];refine k1.trans ?_;show Q4v _ _ _ _ _ _ _=_;delta Q4v Qal A;refine k3.trans ?_;show Q4u _ _ _ _ _ _=_;delta Q4u B X A;simp only [e2,X3]
theorem TyD.at (h:TyD N ts) (j:Nat) (hj:j < 12) (g:Fd) (hg:(rowT 0)[j]?=some g):∃ t,ts[j]?=some t/\Ty N g t:=⟨_,List.getElem?_eq_getElem (by rw [h.1]; exact hj),h.2 j _ g (List.getElem?_eq_getElem (by rw [h.1]; exact hj)) hg⟩
theorem RdL.at {m:Mem} (h:RdL B m ts cs) (hj:ts[j]?=some t):∃ c,cs[j]?=some c/\Rd B m t c:=by
 have hlt:j < cs.length:=by rw [h.1]; exact (List.getElem?_eq_some_iff.mp hj).1
 exact ⟨cs[j],List.getElem?_eq_getElem hlt,h.2 j t _ hj (List.getElem?_eq_getElem hlt)⟩
theorem Xcp {m:Mem} (h:RdL B m ts dv):∃ m1,(∀ k:Value->Mem->Option Rs,bp (some (aNew Q17 (Value.cells (.agg ⟨dv⟩)).toList (withLow m m.next))) k=k (pt m.next 0 0) m1)/\Fb m.next (withLow m m.next) m1/\m1.next=m.next + 1/\m1.get m.next=some (.cells dv 0 0 false (some (2 * Q17 + 1)))/\RdL B m1 ts dv:=by
 have f:Fb m.next (withLow m m.next) ((withLow m m.next).push (.cells dv 0 0 false (some (2 * Q17 + 1)))):=Fb.push _ (Nat.le_refl _);refine ⟨_,fun k=>Xp _ _ _ _,f,rfl,by rw [Mem.get_push]; exact if_pos rfl,?_⟩;have h1:RdL B (withLow m m.next) ts dv:=⟨h.1,fun i t c a b=>Rd.same (m:=m) (m':=withLow m m.next) (Nat.le_refl _) (fun _=>rfl) (h.2 i t c a b)⟩
 exact h1.fr (Fb.toFr f)
theorem St.zero (m1:Mem) (h:rb < m1.next) (ho:m1.get rb=some o):St false m1 rb o [] (.slice none 0 0) m1:=⟨⟨GA.none _ _,fun p n c e=>by cases e⟩,.refl _ _,h,ho⟩
theorem St.zeroS (m1:Mem) (h:rb < m1.next) (ho:m1.get rb=some o):St true m1 rb o [] (sv []) m1:=⟨rfl,.refl _ _,h,ho⟩
theorem St.cv {m:Mem} {t:Str} (h:St false m0 rb o t acc m):conv .str acc m=some (sv t,m):=h.1.1.conv
theorem c_dumpLists (h:TyD N ts) (hN:N <= 11000):∃ S:Str,S.length <= 29336175000000/\∀ (d B:Nat) (m:Mem) (dv:List Value),RdL B m ts dv->TA (d + 4) Q7k [.agg ⟨dv⟩] m=some (sv S,m):=by
 obtain ⟨t7,a7,k7⟩:=h.at 7 (by decide) _ rfl;obtain ⟨T7,h7,q7⟩:=Xve k7 (by omega);have b7:N * (N * 300 + 262500) <= 39187500000:=by have:=Nat.mul_le_mul hN (show N * 300 + 262500 <= 11000 * 300 + 262500 by omega); omega
 obtain ⟨t8,a8,k8⟩:=h.at 8 (by decide) _ rfl;obtain ⟨T8,h8,q8⟩:=Xwc k8 (by omega);have b8:N * (N * (22 * N + 100) + 262500) <= 29296987500000:=by have:=Nat.mul_le_mul hN (show N * (22 * N + 100) + 262500 <= 11000 * (22 * 11000 + 100) + 262500 from Nat.add_le_add_right (Nat.mul_le_mul hN (by omega)) _); omega
 refine ⟨T7 ++ T8,by simp only [List.length_append]; omega,fun d B m dv hd=>?_⟩;rw [X5j];obtain ⟨m1,e0,f1,n1,g1,r1⟩:=Xcp hd;obtain ⟨y7,x7,z7⟩:=r1.at a7;obtain ⟨acc7,m7,e7,s7⟩:=q7 d B m.next m1 dv _ y7 (by omega) z7 x7 [] _ m1 18446744073709551616 (St.zero m1 (by omega) g1) (by simp only [List.length_append,List.nil_append,List.length_nil]; omega) (by omega);obtain ⟨y8,x8,z8⟩:=r1.at a8;obtain ⟨acc8,m8,e8,s8⟩:=q8 d B m.next m1 dv _ y8 (by omega) z8 x8 ([] ++ T7) acc7 m7 18446744073709551616 (s7) (by simp only [List.length_append,List.nil_append,List.length_nil]; omega) (by omega);refine X16 (m1:=m8) ?_ (f1.trans (s8.2.1.mono (by omega))) rfl;delta Q31 S;refine (e0 _).trans ?_;delta Qa5 Qa4 Q9l A;refine e7.trans ?_;show Q3m _ _ _ _=_;delta Q3m Qa3 A;refine e8.trans ?_;show Q3k _ _ _=_;delta Q3k F K;have hc:=s8.cv;simp only [hc,X4,List.nil_append]
theorem c_dumpPolicies (h:TyD N ts) (hN:N <= 11000):∃ S:Str,S.length <= 122091887500000/\∀ (d B:Nat) (m:Mem) (dv:List Value),RdL B m ts dv->TA (d + 4) Q5c [.agg ⟨dv⟩] m=some (sv S,m):=by
 obtain ⟨t9,a9,k9⟩:=h.at 9 (by decide) _ rfl;obtain ⟨T9,h9,q9⟩:=Xsq k9 (by omega);have b9:N * (N * (44 * N + 525000) + 262500) <= 122091887500000:=by have:=Nat.mul_le_mul hN (show N * (44 * N + 525000) + 262500 <= 11000 * (44 * 11000 + 525000) + 262500 from Nat.add_le_add_right (Nat.mul_le_mul hN (by omega)) _); omega
 refine ⟨T9,by omega,fun d B m dv hd=>?_⟩;rw [X4f];obtain ⟨m1,e0,f1,n1,g1,r1⟩:=Xcp hd;obtain ⟨y9,x9,z9⟩:=r1.at a9;obtain ⟨acc9,m9,e9,s9⟩:=q9 d B m.next m1 dv _ y9 (by omega) z9 x9 [] _ m1 18446744073709551616 (St.zero m1 (by omega) g1) (by simp only [List.length_append,List.nil_append,List.length_nil]; omega) (by omega);refine X16 (m1:=m9) ?_ (f1.trans (s9.2.1.mono (by omega))) rfl;delta Q29 S;refine (e0 _).trans ?_;delta Q86 Q85 Q84 A;refine e9.trans ?_;show Q2m _ _ _=_;delta Q2m F K;have hc:=s9.cv;simp only [hc,X4,List.nil_append]
theorem c_dumpOSPF (h:TyD N ts) (hN:N <= 11000):∃ S:Str,S.length <= 31765393000000/\∀ (d B:Nat) (m:Mem) (dv:List Value),RdL B m ts dv->TA (d + 5) Q88 [.agg ⟨dv⟩] m=some (sv S,m):=by
 obtain ⟨t10,a10,k10⟩:=h.at 10 (by decide) _ rfl;obtain ⟨T10,h10,q10⟩:=Xyf k10 (by omega);have b10:N * (N * 262500 + 263000) <= 31765393000000:=by have:=Nat.mul_le_mul hN (show N * 262500 + 263000 <= 11000 * 262500 + 263000 by omega); omega
 refine ⟨T10,by omega,fun d B m dv hd=>?_⟩;rw [X62];obtain ⟨m1,e0,f1,n1,g1,r1⟩:=Xcp hd;obtain ⟨y10,x10,z10⟩:=r1.at a10;obtain ⟨acc10,m10,e10,s10⟩:=q10 d B m.next m1 dv _ y10 (by omega) z10 x10 [] _ m1 18446744073709551616 (St.zeroS m1 (by omega) g1) (by simp only [List.length_append,List.nil_append,List.length_nil]; omega) (by omega);refine X16 (m1:=m10) ?_ (f1.trans (s10.2.1.mono (by omega))) rfl;delta Q3f S;refine (e0 _).trans ?_;delta Qak Qaj Qai A E;refine e10.trans ?_;show Q47 _ _ _=_;delta Q47 K;rw [s10.1];rfl
theorem c_dumpBGP (h:TyD N ts) (hN:N <= 11000):∃ S:Str,S.length <= 95290393000000/\∀ (d B:Nat) (m:Mem) (dv:List Value),RdL B m ts dv->TA (d + 5) Q8w [.agg ⟨dv⟩] m=some (sv S,m):=by
 obtain ⟨t11,a11,k11⟩:=h.at 11 (by decide) _ rfl;obtain ⟨T11,h11,q11⟩:=X108 k11 (by omega);have b11:N * (N * 787500 + 263000) <= 95290393000000:=by have:=Nat.mul_le_mul hN (show N * 787500 + 263000 <= 11000 * 787500 + 263000 by omega); omega
 refine ⟨T11,by omega,fun d B m dv hd=>?_⟩;rw [X6g];obtain ⟨m1,e0,f1,n1,g1,r1⟩:=Xcp hd;obtain ⟨y11,x11,z11⟩:=r1.at a11;obtain ⟨acc11,m11,e11,s11⟩:=q11 d B m.next m1 dv _ y11 (by omega) z11 x11 [] _ m1 18446744073709551616 (St.zeroS m1 (by omega) g1) (by simp only [List.length_append,List.nil_append,List.length_nil]; omega) (by omega);refine X16 (m1:=m11) ?_ (f1.trans (s11.2.1.mono (by omega))) rfl;delta Q3v S;refine (e0 _).trans ?_;delta Qbe Qbd Qbc A E;refine e11.trans ?_;show Q4t _ _ _=_;delta Q4t K;rw [s11.1];rfl
theorem Rd.vs {d:Nat} {m:Mem} {g:Fd} (hg:g ≠ .f) (ht:Ty N g t) (h:Rd B m t y):vsame (d + 1) y y=true:=by
 cases h with
 | v x =>
  cases ht
  case f=>exact absurd rfl hg
  all_goals simp [vsame,sv]
 | nil sz=>simp [vsame]
 | l L n sz ts cs ty hn hr hlo hb hg hl ht h=>unfold slV; split <;> simp [vsame]
theorem Xua (d:Nat):∀ l:List Value,(∀ y ∈ l,vsame d y y=true)->vsame.vsames d l l=true
 | [],_=>by simp [vsame.vsames]
 | a :: l,h=>by
  simp only [vsame.vsames,Bool.and_eq_true];exact ⟨h a (List.mem_cons_self ..),Xua d l fun y hy=>h y (List.mem_cons_of_mem _ hy)⟩
theorem RdL.again {N B:Nat} {m:Mem} {ts:List Tn} {dv:List Value} (h:RdL B m ts dv) (ht:TyD N ts) (m':Mem):again (pur (some (.agg ⟨dv⟩)) m') (.agg ⟨dv⟩)=true:=by
 show vsame 8 (.agg ⟨dv⟩) (.agg ⟨dv⟩)=true;unfold vsame;refine Xua 7 dv fun y hy=>?_;obtain ⟨i,hi⟩:=List.mem_iff_getElem?.mp hy;have hlt:i < ts.length:=by rw [<- h.1]; exact (List.getElem?_eq_some_iff.mp hi).1
 have h12:ts.length=12:=ht.1;have h18:(rowT 0).length=18:=rfl;have hf:∀ j,j < 12->(rowT 0)[j]? ≠ some .f:=by
  intro j hj e;have hc:j=0\/j=1\/j=2\/j=3\/j=4\/j=5\/j=6\/j=7\/j=8\/j=9\/j=10\/j=11:=by omega
  rcases hc with rfl | rfl | rfl | rfl | rfl | rfl | rfl | rfl | rfl | rfl | rfl | rfl <;> cases e
 exact Rd.vs (fun e=>hf i (by omega) (by rw [<- e]; exact List.getElem?_eq_getElem _)) (ht.2 i _ _ (List.getElem?_eq_getElem hlt) (List.getElem?_eq_getElem (by omega:i < (rowT 0).length))) (h.2 i _ y (List.getElem?_eq_getElem hlt) hi)
theorem Xls:∀ l:List Str,(∀ w ∈ l,w.length <= SB)->X2r l <= l.length * 262166
 | [],_=>Nat.le_refl _
 | w :: l,h=>by
  have:=Xls l fun w' hw'=>h w' (List.mem_cons_of_mem _ hw');have h1:w.length <= 262144:=h w (List.mem_cons_self ..);have hsum:X2r (w :: l)=w.length + 22 + X2r l:=by unfold X2r; rw [List.map_cons,List.sum_cons]
  rw [hsum,List.length_cons,Nat.add_mul,Nat.one_mul];omega
theorem Xsv (h:Ty N (.l 1) (.l (rowL 1) n ts)):∃ ws:List Str,ts=ws.map (fun w=>.v (sv w))/\(∀ w ∈ ws,w.length <= SB)/\ws.length=n/\n <= N:=by
 obtain ⟨n',ts',e,hn,hl,hty⟩:=h.list;cases e;have:∀ i,∃ w:Str,i < n->ts[i]?=some (.v (sv w))/\w.length <= SB:=fun i=>by
  by_cases hi:i < n
  ·obtain ⟨t0,a0,k0⟩:=hty i 0 _ hi (by decide) rfl;obtain ⟨w,rfl,hw⟩:=k0.str;have e:i * rowL 1 + 0=i:=Nat.mul_one i;rw [e] at a0;exact ⟨w,fun _=>⟨a0,hw⟩⟩
  ·exact ⟨[],fun q=>absurd q hi⟩
 obtain ⟨W,hW⟩:=Classical.axiomOfChoice this;have hl:ts.length=n:=hl.trans (Nat.mul_one n);refine ⟨(List.range n).map W,?_,?_,by simp,hn⟩
 ·refine List.ext_getElem? fun i=>?_;by_cases hi:i < n
  ·rw [(hW i hi).1]; simp [hi]
  ·rw [List.getElem?_eq_none (by omega)]; simp [hi]
 ·intro w hw;obtain ⟨i,hi,rfl⟩:=List.mem_map.mp hw;exact (hW i (List.mem_range.mp hi)).2
theorem Rd.ga {m:Mem} (h:Rd B m (.l 1 n (ws.map fun w=>.v (sv w))) y) (hn:ws.length=n):GA 0 m y (ws.map sv):=by
 generalize hts:(ws.map fun w=>Tn.v (sv w))=ts at h;cases h with
 | nil =>
  cases ws with
  | nil=>exact GA.none _ _
  | cons=>cases hts
 | l L n sz ts cs ty h0 hr hlo hb hg hl ht h =>
  have hcs:cs=ws.map sv:=by
   refine List.ext_getElem? fun i=>?_;by_cases hi:i < n
   ·have hlt:i < cs.length:=by omega
    have:=h i (.v (sv (ws[i]'(by omega)))) cs[i] (by subst hts; simp [hn,hi]) (List.getElem?_eq_getElem hlt);rw [List.getElem?_eq_getElem hlt,this.val];simp [hn,hi]
   ·rw [List.getElem?_eq_none (by omega),List.getElem?_eq_none (by simp; omega)]
  subst hcs;refine .inr ⟨by intro q; simp at q; subst q; exact h0 hn.symm,L.b,L.ver,L.r,ty,hr,?_,Nat.zero_le _,hb,hg⟩;rw [List.length_map,hn];exact if_neg h0
theorem Xt2 (m:Mem) (S:Str) (h:S ≠ []):∃ v m',conv .bytes (sv S) m=some (v,m')/\Fb m.next m m'/\m'.next=m.next + 1/\GA m.next m' v (S.map by8):=by
 refine ⟨.slice (some ⟨m.next,0,some 1⟩) S.length 0,m.push (.cells (S.map by8) 0 0 false none),rfl,Fb.push _ (Nat.le_refl _),rfl,.inr ⟨by simpa using h,m.next,0,0,none,by omega,by rw [List.length_map],Nat.le_refl _,Nat.lt_succ_self _,by rw [Mem.get_push,if_pos rfl]⟩⟩
theorem c_Dump (h:TyD N ts) (hN:N <= 11000):∃ S:Str,∀ (d B:Nat) (m:Mem) (dv:List Value),RdL B m ts dv->TA (d + 6) Q41 [.agg ⟨dv⟩] m=some (sv S,m):=by
 obtain ⟨t0,a0,k0⟩:=h.at 0 (by decide) _ rfl;obtain ⟨t1,a1,k1⟩:=h.at 1 (by decide) _ rfl;obtain ⟨t2,a2,k2⟩:=h.at 2 (by decide) _ rfl;obtain ⟨t3,a3,k3⟩:=h.at 3 (by decide) _ rfl;obtain ⟨t4,a4,k4⟩:=h.at 4 (by decide) _ rfl;obtain ⟨t5,a5,k5⟩:=h.at 5 (by decide) _ rfl;obtain ⟨t6,a6,k6⟩:=h.at 6 (by decide) _ rfl;obtain ⟨t7,a7,k7⟩:=h.at 7 (by decide) _ rfl;obtain ⟨t8,a8,k8⟩:=h.at 8 (by decide) _ rfl;obtain ⟨t9,a9,k9⟩:=h.at 9 (by decide) _ rfl;obtain ⟨t10,a10,k10⟩:=h.at 10 (by decide) _ rfl;obtain ⟨t11,a11,k11⟩:=h.at 11 (by decide) _ rfl;obtain ⟨w0,rfl,h0⟩:=k0.str;obtain ⟨z1,rfl⟩:=k1.int;obtain ⟨T3,hT3,q3⟩:=Xx3 k3;obtain ⟨T4,hT4,q4⟩:=Xsy k4 (by omega);obtain ⟨T5,hT5,q5⟩:=Xrb k5;obtain ⟨T6,hT6,q6⟩:=Xrr k6;obtain ⟨S7,hS7,q7⟩:=c_dumpLists h hN;obtain ⟨S8,hS8,q8⟩:=c_dumpPolicies h hN;obtain ⟨S9,hS9,q9⟩:=c_dumpOSPF h hN;obtain ⟨S10,hS10,q10⟩:=c_dumpBGP h hN;obtain ⟨n2,ts2,rfl,-⟩:=k2.list;obtain ⟨n3,ts3,rfl,-⟩:=k3.list;obtain ⟨n4,ts4,rfl,-⟩:=k4.list;obtain ⟨n5,ts5,rfl,-⟩:=k5.list;obtain ⟨n6,ts6,rfl,-⟩:=k6.list;obtain ⟨n7,ts7,rfl,-⟩:=k7.list;obtain ⟨n8,ts8,rfl,-⟩:=k8.list;obtain ⟨n9,ts9,rfl,-⟩:=k9.list;obtain ⟨n10,ts10,rfl,-⟩:=k10.list;obtain ⟨n11,ts11,rfl,-⟩:=k11.list;obtain ⟨ws,rfl,hws,hwn,hn2⟩:=Xsv k2;obtain ⟨S0,hS0,hne,q0⟩:=c_dump [IntKind.i64.wrap z1,(n2:Int),(n3:Int),(n4:Int),(n5:Int),(n6:Int),(n7:Int),(n8:Int),(n9:Int),(n10:Int),(n11:Int)] (w0 :: ws) (by simp) (by simp; omega) (by
  intro w hw;rcases List.mem_cons.mp hw with rfl | hw
  ·exact h0
  ·exact hws w hw)
 have hs0:=Xls (w0 :: ws) (by
  intro w hw;rcases List.mem_cons.mp hw with rfl | hw
  ·exact h0
  ·exact hws w hw)
 rw [List.length_cons,hwn] at hs0;have b3:N * 1048964 <= 11000 * 1048964:=Nat.mul_le_mul_right _ hN;have b5:N * 262466 <= 11000 * 262466:=Nat.mul_le_mul_right _ hN;have b4:N * (N * 300 + 262500) <= 11000 * (11000 * 300 + 262500):=Nat.mul_le_mul hN (by omega);have hS0l:S0.length <= 10000000000:=by simp at hS0; omega
 refine ⟨S0 ++ T3 ++ T4 ++ T5 ++ T6 ++ S7 ++ S8 ++ S9 ++ S10,fun d B m dv hd=>?_⟩;rw [X89];obtain ⟨m1,e0,f1,g1n,g1,r1⟩:=Xcp hd;obtain ⟨y0,x0,u0⟩:=r1.at a0;obtain ⟨y1,x1,u1⟩:=r1.at a1;obtain ⟨y2,x2,u2⟩:=r1.at a2;obtain ⟨y3,x3,u3⟩:=r1.at a3;obtain ⟨y4,x4,u4⟩:=r1.at a4;obtain ⟨y5,x5,u5⟩:=r1.at a5;obtain ⟨y6,x6,u6⟩:=r1.at a6;obtain ⟨y7,x7,u7⟩:=r1.at a7;obtain ⟨y8,x8,u8⟩:=r1.at a8;obtain ⟨y9,x9,u9⟩:=r1.at a9;obtain ⟨y10,x10,u10⟩:=r1.at a10;obtain ⟨y11,x11,u11⟩:=r1.at a11;cases u0.val;cases u1.val;have ld:∀ (m':Mem),Fb m1.next m1 m'->∀ (j:Nat) (c:Value),dv[j]?=some c->X8 false 1 (pt m.next j 0) m'=some c:=fun m' f j c hj=>X12 (by rw [f.get _ (by omega)]; exact g1) hj;obtain ⟨ma,s1,fa,na,ga⟩:=bld m1 [I (IntKind.i64.wrap z1),I n2,I n3,I n4,I n5,I n6,I n7,I n8,I n9,I n10,I n11] (some (2 * Qm)) (by simp) (x:=X5 Qm [(.int .i64 0)] 1 11 [(0,I (IntKind.i64.wrap z1)),(1,I n2),(2,I n3),(3,I n4),(4,I n5),(5,I n6),(6,I n7),(7,I n8),(8,I n9),(9,I n10),(10,I n11)] m1) (Eq.trans rfl rfl);obtain ⟨mb,s2,fb,nb,gb⟩:=bld ma [sv w0] (some (2 * Q4)) (by simp) (x:=X5 Q4 [(.string ⟨#[]⟩)] 1 1 [(0,sv w0)] ma) (Eq.trans rfl rfl);have fab:=fa.trans (fb.mono fa.next);have gn:GA 0 mb y2 (ws.map sv):=by
  have:RdL B mb ts dv:=r1.fr (Fb.toFr fab);exact (this.2 2 _ y2 a2 x2).ga hwn
 obtain ⟨v2,mc,s3,fc,gc⟩:=GA.apl (e:=Q4) (bytes:=16) gb (by omega) gn (by rw [List.all_map]; exact List.all_eq_true.mpr fun _ _=>rfl) (by simp only [fits,Bool.and_eq_true,Nat.ble_eq,List.length_map,List.length_cons,List.length_nil]; omega);have fac:=fab.trans (fc.mono fa.next);have hcn:=fc.next;have hq0:=q0 (d + 2) m1.next ma.next mc _ _ (GA.fb ga (by omega) fun b hb1 hb2=>by rw [fc.get b hb2,fb.get b hb2]) gc;obtain ⟨v3,md,s4,fd,nd,gd⟩:=Xt2 mc S0 hne;have fad:=fac.trans (fd.mono fac.next);have hdn:=fad.next;have st:St false m1 m.next (.cells dv 0 0 false (some (2 * Q17 + 1))) S0 v3 md:=by
  have han:=fac.next;refine ⟨⟨?_,fun p n c e=>?_⟩,fad,by omega,by rw [fad.get _ (by omega)]; exact g1⟩
  ·rcases gd with ⟨q,_⟩ | ⟨q1,b,ver,r,ty,q2,q3,q4,q5,q6⟩
   ·exact absurd q (by simpa using hne)
   ·exact .inr ⟨q1,b,ver,r,ty,q2,q3,by omega,q5,q6⟩
  ·rcases gd with ⟨q,_⟩ | ⟨q1,b,ver,r,ty,q2,q3,q4,q5,q6⟩
   ·exact absurd q (by simpa using hne)
   ·rw [q3] at e; cases e; show b ≠ m.next; omega
 obtain ⟨acc3,m3,e3,st3⟩:=q3 (d + 2) B m.next m1 dv _ y3 trivial u3 x3 S0 v3 md (gD (d + 2)).rds st (by omega) (by show N < 18446744073709551616; omega);obtain ⟨acc4,m4,e4,st4⟩:=q4 (d + 2) B m.next m1 dv _ y4 (by omega) u4 x4 (S0 ++ T3) acc3 m3 (gD (d + 2)).rds st3 (by rw [List.length_append]; omega) (by show N < 18446744073709551616; omega);obtain ⟨acc5,m5,e5,st5⟩:=q5 (d + 2) B m.next m1 dv _ y5 trivial u5 x5 (S0 ++ T3 ++ T4) acc4 m4 (gD (d + 2)).rds st4 (by simp only [List.length_append]; omega) (by show N < 18446744073709551616; omega);obtain ⟨acc6,m6,e6,st6⟩:=q6 (d + 2) B m.next m1 dv _ y6 trivial u6 x6 (S0 ++ T3 ++ T4 ++ T5) acc5 m5 (gD (d + 2)).rds st5 (by simp only [List.length_append]; omega) (by show N < 18446744073709551616; omega);have r6:RdL B m6 ts dv:=r1.fr (Fb.toFr st6.2.1);have la:X8 true 12 (pt m.next 0 0) m6=some (.agg ⟨dv⟩):=Xv st6.2.2.2 (by rw [hd.1,h.1]; omega) (by rw [List.drop_zero,List.take_of_length_le (by rw [hd.1,h.1]; omega)]);have hc:=st6.cv;have ac:again (some (sv (S0 ++ T3 ++ T4 ++ T5 ++ T6),m6)) (sv (S0 ++ T3 ++ T4 ++ T5 ++ T6))=true:=X1p _ m6;have ag:=r6.again h m6;have p7:=q7 (d + 1) B m6 dv r6;have p8:=q8 (d + 1) B m6 dv r6;have p9:=q9 d B m6 dv r6;have p10:=q10 d B m6 dv r6;have b7:bin .add false true .str (sv (S0 ++ T3 ++ T4 ++ T5 ++ T6)) (sv S7)=_:=Q48 _ _ _ _ (by simp only [List.length_append]; omega);have b8:bin .add false true .str (sv (S0 ++ T3 ++ T4 ++ T5 ++ T6 ++ S7)) (sv S8)=_:=Q48 _ _ _ _ (by simp only [List.length_append]; omega);have b9:bin .add false true .str (sv (S0 ++ T3 ++ T4 ++ T5 ++ T6 ++ S7 ++ S8)) (sv S9)=_:=Q48 _ _ _ _ (by simp only [List.length_append]; omega);have b10:bin .add false true .str (sv (S0 ++ T3 ++ T4 ++ T5 ++ T6 ++ S7 ++ S8 ++ S9)) (sv S10)=_:=Q48 _ _ _ _ (by simp only [List.length_append]; omega);refine X16 (m1:=m6) ?_ (f1.trans (st6.2.1.mono (by omega))) rfl;delta Q5q S;refine (e0 _).trans ?_;delta Qdu L F C qj O H qi P N qw A;have l1:=ld m1 (.refl _ _);have lb:=ld mb fab;have lc:=ld mc fac;simp only [X9,Nat.zero_add,X3,l1 1 _ x1,l1 2 _ x2,l1 3 _ x3,l1 4 _ x4,l1 5 _ x5,l1 6 _ x6,l1 7 _ x7,l1 8 _ x8,l1 9 _ x9,l1 10 _ x10,l1 11 _ x11,c_int,X4,u2.len,u2.again,u3.len,u3.again,u4.len,u4.again,u5.len,u5.again,u6.len,u6.again,u7.len,u7.again,u8.len,u8.again,u9.len,u9.again,u10.len,u10.again,u11.len,u11.again,s1,ld ma fa 0 _ x0,s2,lb 2 _ x2,s3,lc 1 _ x1,lc 2 _ x2,lc 3 _ x3,lc 4 _ x4,lc 5 _ x5,lc 6 _ x6,lc 7 _ x7,lc 8 _ x8,lc 9 _ x9,lc 10 _ x10,lc 11 _ x11,X1a,Bool.true_and,Xr];refine Eq.trans (congrArg (fun x=>bp x _) hq0) ?_;rw [X4,s4,X4];delta Qdt Qcy A;refine e3.trans ?_;show Q6y _ _ _ _=_;delta Q6y Qcx A;refine e4.trans ?_;show Q6x _ _ _ _=_;delta Q6x Qds A;refine e5.trans ?_;show Q6w _ _ _ _=_;delta Q6w Qdr A;refine e6.trans ?_;show Q6v _ _ _ _=_;unfold Q6v;simp only [hc,la,X3,X4,p7,p8,p9,p10,ac,ag,Bool.true_and,Xr,b7,b8,b9,b10]
theorem Xhh (c:UInt8):∀ l:Str,((split c l).map List.length).sum <= l.length
 | []=>by simp [split]
 | a :: l=>by
  have ih:=Xhh c l;rw [X4a];split
  ·simp; omega
  ·cases hs:split c l with
   | nil=>exact absurd hs (X4v c l)
   | cons x xs =>
    rw [hs] at ih;simp at ih ⊢;omega
theorem Xuj:∀ (rows:List Str) (i:Nat),totL (X11 rows i) <= (rows.map List.length).sum + 3 * rows.length
 | [],i=>Nat.zero_le _
 | r :: l,i=>by
  have ih:=Xuj l (i + 1);unfold X11;rw [List.map_cons,List.sum_cons,List.length_cons];cases hp:rowP r with
  | none=>show totL (X11 l (i + 1)) <= _; omega
  | some y =>
   have hy:y.2.length <= r.length:=by
    unfold rowP at hp;dsimp only at hp;split at hp
    ·cases hp
    ·cases hp;have ht:=X5h r;have:=(Xfc r.length (r.length + 1) (trimS r) ht).1;show (X32 r.length (r.length + 1) (trimS r)).length <= _;omega
   show y.2.length + 3 + totL (X11 l (i + 1)) <= _;omega
theorem Xqw {s:Str} (h1:s.length <= 8000) (h2:(split 10 s).length <= 1000):totL (linesT s) <= 11000:=by
 have:=Xuj (split 10 s) 0;have:=Xhh 10 s;show totL (X11 (split 10 s) 0) <= _;omega
theorem Ty.up {N M:Nat} (h:N <= M):∀ {g:Fd} {t:Tn},Ty N g t->Ty M g t
 | _,_,.i k z=>.i k z
 | _,_,.s t h=>.s t h
 | _,_,.b x=>.b x
 | _,_,.f t=>.f t
 | _,_,.l r n ts hn hl q=>.l r n ts (Nat.le_trans hn h) hl fun i t g a b=>(q i t g a b).up h
theorem TyD.up {N M:Nat} (h:N <= M) {ts:List Tn} (k:TyD N ts):TyD M ts:=⟨k.1,fun j t g a b=>(k.2 j t g a b).up h⟩
theorem Xmr (s:Str) (at':Int) (hs:s.length <= 8000) (hr:(split 10 s).length <= 1000):(Xq (X2o s at')).2.2=(Xq s).2.2/\X54 (X2o s at')=X54 s/\((Xq s).2.2=0\/(Xq s).2.2=5\/(Xq s).1 + 2 <= (Xq (X2o s at')).1):=by
 obtain ⟨_,⟨h1,h2⟩ | ⟨h1,h2,h3⟩⟩:=Xdc s at' hs hr
 ·have d1:X54 s=devN (X3h (linesT s) st0):=if_neg (fun q=>q h1);have d2:X54 (X2o s at')=devN (X3h (linesT (X2o s at')) st0):=if_neg (fun q=>q h2);rw [X73 h1,X73 h2,d1,d2];obtain ⟨r1,r2⟩:=Xtv (Xj8 s at') (s:=st0) (s':=st0) ⟨rfl,rfl,rfl,rfl,rfl⟩;cases hf:X3h (linesT s) st0 with
  | error e =>
   obtain ⟨e',a,b,c⟩:=r1 e hf;rw [a];exact ⟨b,rfl,.inr (.inr c)⟩
  | ok S =>
   obtain ⟨S',a,b⟩:=r2 S hf;rw [a];have hX:S.X=S'.X:=b.1;unfold ansN devN;dsimp only;rw [<- hX];refine ⟨rfl,rfl,?_⟩;split
   ·exact .inr (.inl rfl)
   ·exact .inl rfl
 ·have n1:(Xi s).2.2 ≠ 0:=by rw [h1]; decide
  have n2:(Xi (X2o s at')).2.2 ≠ 0:=by rw [h2]; decide
  have d1:X54 s=Xi5:=if_pos n1;have d2:X54 (X2o s at')=Xi5:=if_pos n2;rw [X49 n1,X49 n2,d1,d2,h1,h2];exact ⟨rfl,rfl,.inr (.inr h3)⟩
abbrev gw (d:Nat):Gt:=⟨TA (d + 10),18446744073709551616⟩
theorem Xqp (A C:Str) (a:UInt8):Xe (sv (A ++ a :: C)) (I A.length)=some (.int .u8 (a.toNat:Int)):=by
 rw [X56 _ .i64 A.length (by simp)]; simp
theorem Xv8 (A C:Str) (a:UInt8):Xw (sv (A ++ a :: C)) (some (I A.length)) (some (I (A.length + 1:Nat)))=some (sv [a]):=by
 rw [Xjo _ _ _ (by omega) (by simp)];congr 2;rw [show A ++ a :: C=(A ++ [a]) ++ C by simp,List.take_left' (by simp),List.drop_left' rfl]
theorem Xkc (a:UInt8):bin .eql true true .int (.int .u8 (a.toNat:Int)) (.int .u8 32)=some (.bool (decide (a=32))):=by
 rw [Q79]; congr 2; rw [decide_eq_decide];constructor
 ·intro h;have:a.toNat=32:=by omega
  exact UInt8.toNat_inj.mp this
 ·rintro rfl; rfl
variable {d i:Nat} {m:Mem} {v p0 p1:Value} {rows:List Str} {k0:Value->Value->Value->Value->Value->Mem->Option Rs}
theorem Xz6 (hv:SL m v rows) {r C:Str} (hr:rows[i]?=some r) (hrl:r.length <= 65536) (hC:C=[]\/∃ a l,C=a :: l/\a ≠ 32) (t:Str):∀ (A D:Str) (f:Nat),r=D ++ (A ++ C)->(∀ a ∈ A,a=32)->A.length < f->Q12 (gw d) k0 f (I D.length) v (I i) (sv t) p1 p0 m=Q53 (gw d) k0 (sv t) v (I i) (I (D.length + A.length:Nat)) p1 p0 m
 | [],D,f,e,hA,hf=>by
  obtain ⟨f,rfl⟩:∃ j,f=j + 1:=⟨f - 1,by omega⟩
  obtain ⟨p,q1,q2⟩:=hv.at hr;unfold Q12;delta Q2z Q D B N qx X qg qe A qh;rcases hC with rfl | ⟨a,l,rfl,ha⟩
  ·have e1:bin .lss false true .int (I D.length) (I r.length)=some (.bool false):=by rw [X2k,decide_eq_false (by rw [e]; simp)]
   simp only [q1,q2,X3,X36,e1,X6,List.length_nil,Nat.add_zero]
  ·have e1:bin .lss false true .int (I D.length) (I r.length)=some (.bool true):=by rw [X2k,decide_eq_true (by rw [e]; simp)]
   have e2:Xe (sv r) (I D.length)=some (.int .u8 (a.toNat:Int)):=by rw [e]; exact Xqp D l a
   simp only [q1,q2,X3,X36,e1,X7,e2,Xkc,decide_eq_false ha,X6,List.length_nil,Nat.add_zero]
 | a :: A,D,f,e,hA,hf=>by
  rw [List.length_cons] at hf;obtain ⟨f,rfl⟩:∃ j,f=j + 1:=⟨f - 1,by omega⟩
  obtain ⟨p,q1,q2⟩:=hv.at hr;obtain rfl:a=32:=hA a (List.mem_cons_self ..);have hl:=congrArg List.length e;simp only [List.length_append,List.length_cons] at hl;have e1:bin .lss false true .int (I D.length) (I r.length)=some (.bool true):=by rw [X2k,decide_eq_true (by omega)]
  have e2:Xe (sv r) (I D.length)=some (.int .u8 ((32:UInt8).toNat:Int)):=by rw [e]; exact Xqp D _ 32
  have e3:=X6r D.length true true (by omega);have ih:=Xz6 hv hr hrl hC t A (D ++ [32]) f (by rw [e]; simp) (fun b hb=>hA b (List.mem_cons_of_mem _ hb)) (by omega);rw [show (D ++ [(32:UInt8)]).length=D.length + 1 by simp] at ih;rw [show D.length + (32 :: A).length=D.length + 1 + A.length by rw [List.length_cons]; omega,<- ih];obtain ⟨X,hX⟩:∃ X,Q12 (gw d) k0 f (I (D.length + 1:Nat)) v (I i) (sv t) p1 p0 m=X:=⟨_,rfl⟩
  rw [hX];unfold Q12;delta Q2z Q D B N qx X qg qe A qh;simp only [q1,q2,X3,X36,e1,X7,e2,Xkc,decide_true,e3,hX]
theorem Xys (hv:SL m v rows) {r:Str} (hr:rows[i]?=some r) (hrl:r.length <= 65536):∀ (C D t:Str) (f:Nat),r=D ++ C->C.length < f->t.length + 3 * C.length <= 1000000->Q11 (gw d) k0 f (I D.length) v (I i) (sv t) p1 p0 m=Q2y (gw d) k0 (sv (t ++ trip C)) (I i) p1 v p0 m
 | [],D,t,f,e,hf,ht=>by
  obtain ⟨f,rfl⟩:∃ j,f=j + 1:=⟨f - 1,by omega⟩
  obtain ⟨p,q1,q2⟩:=hv.at hr;have e1:bin .lss false true .int (I D.length) (I r.length)=some (.bool false):=by rw [X2k,decide_eq_false (by rw [e]; simp)]
  unfold Q11;delta D N qx qh;simp only [q1,q2,X3,X36,e1,X6];show _=Q2y (gw d) k0 (sv (t ++ [])) (I i) p1 v p0 m;rw [List.append_nil]
 | a :: C,D,t,f,e,hf,ht=>by
  rw [List.length_cons] at hf ht;obtain ⟨f,rfl⟩:∃ j,f=j + 1:=⟨f - 1,by omega⟩
  obtain ⟨p,q1,q2⟩:=hv.at hr;have hl:=congrArg List.length e;simp only [List.length_append,List.length_cons] at hl;have e1:bin .lss false true .int (I D.length) (I r.length)=some (.bool true):=by rw [X2k,decide_eq_true (by omega)]
  have e2:Xe (sv r) (I D.length)=some (.int .u8 (a.toNat:Int)):=by rw [e]; exact Xqp D _ a
  have e3:=X6r D.length true true (by omega);have e4:Xw (sv r) (some (I D.length)) (some (I (D.length + 1:Nat)))=some (sv [a]):=by rw [e]; exact Xv8 D C a
  have e5:bin .add false true .str (sv t) (sv [a])=some (sv (t ++ [a])):=Q48 _ _ _ _ (by show t.length + 1 < _; omega);have e6:bin .add true true .str (sv (t ++ [a])) (.string ⟨#[32,32]⟩)=some (sv (t ++ [a] ++ [32,32])):=Q48 _ _ _ [32,32] (by rw [List.length_append]; show t.length + 1 + 2 < _; omega);rw [X3o,<- List.append_assoc];have ih:=Xys hv hr hrl C (D ++ [a]) (t ++ (if a=32 then [32,32,32] else [a])) f (by rw [e]; simp) (by omega) (by rw [List.length_append]; split <;> simp only [List.length_cons,List.length_nil] <;> omega);rw [show (D ++ [a]).length=D.length + 1 by simp] at ih;rw [<- ih];obtain ⟨X,hX⟩:∃ X,Q11 (gw d) k0 f (I (D.length + 1:Nat)) v (I i) (sv (t ++ (if a=32 then [32,32,32] else [a]))) p1 p0 m=X:=⟨_,rfl⟩
  rw [hX];unfold Q11;delta Q8o Q52 D B N qx X qg A qh E;by_cases ha:a=32
  ·subst ha;rw [if_pos rfl] at hX;have e7:t ++ [32] ++ [32,32]=t ++ [32,32,32]:=by simp
   simp only [q1,q2,X3,X36,e1,X7,e3,e4,e5,e2,Xkc,decide_true,e6,e7,hX]
  ·rw [if_neg ha] at hX;simp only [q1,q2,X3,X36,e1,X7,X6,e3,e4,e5,e2,Xkc,decide_eq_false ha,hX]
theorem X10d (hv:SL m v rows) {t:Str} (hr:rows[i]?=some r) (hrl:r.length <= 65536) (ht:t.length <= 65536) (hi:i <= 65536) (at':Int):Q30 (gw d) k0 v (I i) (sv t) (.int .i64 at') p0 m=k0 (I (i + 1:Nat)) v (sv (t ++ (rowB r ++ [10]) ++ ends (insB i at'))) (.int .i64 at') p0 m:=by
 have hs:=row_split r;have hl:=congrArg List.length hs;rw [List.length_append] at hl;obtain ⟨p,q1,q2⟩:=hv.at hr;have h1:=Xz6 (d:=d) (k0:=k0) (p0:=p0) (p1:=.int .i64 at') hv hr hrl (X7c r) t (r.takeWhile isSp) [] 18446744073709551616 (by rw [List.nil_append,hs]) (Xer r) (by omega);delta Q30 Q8r A;refine Eq.trans h1 ?_;rw [List.length_nil,Nat.zero_add];have e1:Xw (sv r) none (some (I (r.takeWhile isSp).length))=some (sv (r.takeWhile isSp)):=by
  rw [Xbt r _ (by omega)];congr 2
  conv=>lhs; rw [<- hs]
  rw [List.take_left' (by rw [hs])]
 have e2:bin .add false true .str (sv t) (sv (r.takeWhile isSp))=some (sv (t ++ r.takeWhile isSp)):=Q48 _ _ _ _ (by omega);delta Q53 Q8q Q8p B qx;simp only [q1,q2,X3,e1,e2];have h2:=Xys (d:=d) (k0:=k0) (p0:=p0) (p1:=.int .i64 at') hv hr hrl (trimS r) (r.takeWhile isSp) (t ++ r.takeWhile isSp) 18446744073709551616 hs.symm (by omega) (by rw [List.length_append]; omega);refine Eq.trans h2 ?_;have htl:=Xfm (trimS r);have e3:bin .add true true .str (sv (t ++ r.takeWhile isSp ++ trip (trimS r))) (.string ⟨#[32,10]⟩)=some (sv (t ++ r.takeWhile isSp ++ trip (trimS r) ++ [32,10])):=Q48 _ _ _ [32,10] (by simp only [List.length_append,List.length_cons,List.length_nil]; omega);have e4:bin .eql false true .int (I i) (.int .i64 at')=some (.bool (decide ((i:Int)=at'))):=Q79 _ _ _ _ _;have e5:=X6r i true true (by omega);have hB:t ++ (rowB r ++ [10])=t ++ r.takeWhile isSp ++ trip (trimS r) ++ [32,10]:=by unfold rowB; simp
 rw [hB];delta Q2y Q51 D B X A E;by_cases ha:(i:Int)=at'
 ·have e6:bin .add true true .str (sv (t ++ r.takeWhile isSp ++ trip (trimS r) ++ [32,10])) (.string ⟨#[32,32,33,32,97,110,111,116,104,101,114,10,32,32,32,10]⟩)=some (sv (t ++ r.takeWhile isSp ++ trip (trimS r) ++ [32,10] ++ ends (insB i at'))):=by
   have:ends (insB i at')=[32,32,33,32,97,110,111,116,104,101,114,10,32,32,32,10]:=by unfold insB; rw [if_pos ha]; rfl
   rw [this];exact Q48 _ _ _ [32,32,33,32,97,110,111,116,104,101,114,10,32,32,32,10] (by simp only [List.length_append,List.length_cons,List.length_nil]; omega)
  simp only [e3,X3,e4,decide_eq_true ha,X7,e6,e5]
 ·have:ends (insB i at')=[]:=by unfold insB; rw [if_neg ha]; rfl
  rw [this,List.append_nil];simp only [e3,X3,e4,decide_eq_false ha,X6,e5]
def tB (at':Int) (rows:List Str) (i:Nat):Str:=ends (Xaq :: [] :: X23 at' (rows.take i) 0)
theorem Xvl (at':Int) (rows:List Str) {i:Nat} (h:rows[i]?=some r):tB at' rows (i + 1)=tB at' rows i ++ (rowB r ++ [10]) ++ ends (insB i at'):=by
 have hlt:=(List.getElem?_eq_some_iff.mp h).1;have e:X23 at' (rows.take (i + 1)) 0=X23 at' (rows.take i) 0 ++ (rowB r :: insB i at'):=by
  rw [List.take_add_one,h,X9e];show _ ++ (rowB r :: (insB (0 + (rows.take i).length) at' ++ []))=_;rw [List.append_nil,List.length_take,Nat.zero_add,Nat.min_eq_left (by omega)]
 unfold tB;rw [e,show Xaq :: [] :: (X23 at' (rows.take i) 0 ++ (rowB r :: insB i at'))=(Xaq :: [] :: X23 at' (rows.take i) 0) ++ (rowB r :: insB i at') from rfl,X4q,show ends (rowB r :: insB i at')=rowB r ++ 10 :: ends (insB i at') from X29 _ _];simp
theorem Xxo (hv:SL m v rows) (at':Int) (hrl:∀ r ∈ rows,r.length <= 65536) (hn:rows.length <= 65536) (ht:∀ i,i <= rows.length->(tB at' rows i).length <= 65536):∀ (n i f:Nat),i + n=rows.length->n < f->Q1 (gw d) f (I i) v (sv (tB at' rows i)) (.int .i64 at') p0 m=Q5e (gw d) p0 (sv (tB at' rows rows.length)) m
 | 0,i,f,e,hf=>by
  obtain ⟨f,rfl⟩:∃ j,f=j + 1:=⟨f - 1,by omega⟩
  obtain rfl:i=rows.length:=by omega
  have e1:bin .lss false true .int (I rows.length) (I rows.length)=some (.bool false):=by rw [X2k,decide_eq_false (by omega)]
  unfold Q1;delta D N qh;simp only [hv.len,X3,e1,X6]
 | n + 1,i,f,e,hf=>by
  obtain ⟨f,rfl⟩:∃ j,f=j + 1:=⟨f - 1,by omega⟩
  have hlt:i < rows.length:=by omega
  have hr:=List.getElem?_eq_getElem hlt;have e1:bin .lss false true .int (I i) (I rows.length)=some (.bool true):=by rw [X2k,decide_eq_true (by omega)]
  rw [<- Xxo hv at' hrl hn ht n (i + 1) f (by omega) (by omega),Xvl at' rows hr,<- X10d (d:=d) (k0:=Q1 (gw d) f) (p0:=p0) hv hr (hrl _ (List.getElem_mem hlt)) (ht i (by omega)) (by omega) at'];obtain ⟨X,hX⟩:∃ X,Q30 (gw d) (Q1 (gw d) f) v (I i) (sv (tB at' rows i)) (.int .i64 at') p0 m=X:=⟨_,rfl⟩
  rw [hX];unfold Q1;delta D N qh;simp only [hv.len,X3,e1,X7,hX]
end Go.Ab.Sh
end
