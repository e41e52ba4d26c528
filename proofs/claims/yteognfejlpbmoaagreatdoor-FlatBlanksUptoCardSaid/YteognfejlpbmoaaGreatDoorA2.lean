/-
  What the functions of the program answer, at every text and every question. No conditions.
-/
import Derived.Test.YteognfejlpbmoaaGreatDoorA1
import Derived.Test.YteognfejlpbmoaaGreatDoorA0
set_option linter.unusedSimpArgs false
set_option linter.unusedVariables false
set_option maxRecDepth 100000
noncomputable section
namespace Go.Ab.Sh
open Go Go.Ab Go.Lib
variable {X:NX} {b:Bool} {b2 bytes e n o r r':Nat} {k:Key} {l l':List Cl} {ty:Option Nat} {w ws:List Str} {ws1 xs:List Value} {y:Option Rs}
variable {c:Cx} {m0 m:Mem} {φ0 φ:Phi} {s0 s:PSt} {cap:Nat} {ts:List Tmp} {x:Option Rs} {Q:Value->Nat->Phi->PSt->Prop} {v:Value} {cu:Cu}
theorem X6e (h1:k ≠ [1]) (h0:k ≠ [0]):toX c s k=s.X k:=by
 unfold toX;rw [NX.set_ne _ _ h1];cases hx:s.X [0] with
 | none=>unfold stF; rw [hx]
 | some o =>
  cases o with
  | c l=>rw [X1b hx]; exact NX.set_ne _ _ h0
  | m es cl=>unfold stF; rw [hx]
theorem X7g (h:s.X [0]=some (.c l)):toX c s [0]=some (.c (l.take 12 ++ (midV c s).map .v ++ l.drop 15)):=by
 unfold toX;rw [NX.set_ne _ _ (by decide),X1b h,NX.set_eq];rfl
theorem Xru (hl:l.length=18) (y:List Cl) (hy:y.length=3) (o:Nat) (h:o < 12\/15 <= o):(l.take 12 ++ y ++ l.drop 15)[o]?=l[o]?:=by
 grind
theorem X7n (w:WT s.X) (h1:k ≠ [1]) (hk:s.X k=some (.c l)):∃ l',toX c s k=some (.c l')/\l'.length=l.length/\∀ o,(k=[0]->o < 12\/15 <= o)->l'[o]?=l[o]?:=by
 by_cases h0:k=[0]
 ·subst h0;obtain ⟨l2,a,b⟩:=w.root;rw [hk] at a;cases a;exact ⟨_,X7g hk,by simp [midV]; omega,fun o h=>Xru b _ rfl o (h rfl)⟩
 ·simp [X6e,h1,h0,hk]
theorem X26 (X:NX) {k':Key} (a b:Option NO) (h:k ≠ k'):(X.set k a).set k' b=(X.set k' b).set k a:=by
 funext q;unfold NX.set;by_cases h1:q=k' <;> by_cases h2:q=k <;> simp [h1,h2]
 ·grind
 ·grind
 ·grind
theorem put3 (hl:l.length=18) (y z:List Cl) (hy:y.length=3) (o:Nat) (ho:o + z.length <= 18) (h:o + z.length <= 12\/15 <= o) :
  (l.take 12 ++ y ++ l.drop 15).take o ++ z ++ (l.take 12 ++ y ++ l.drop 15).drop (o + z.length)=(l.take o ++ z ++ l.drop (o + z.length)).take 12 ++ y ++ (l.take o ++ z ++ l.drop (o + z.length)).drop 15:=by
 have e:(15:Nat)=12 + y.length:=by omega
 rw [e];have l1:(l.take 12 ++ y ++ l.drop (12 + y.length)).length=18:=by grind
 have l2:(l.take o ++ z ++ l.drop (o + z.length)).length=18:=by rw [Xvr (by omega),hl]
 apply List.ext_getElem?;intro i;rw [get_put (by omega),get_put (by omega),get_put (by omega),get_put (by omega)];by_cases p:o <= i/\i < o + z.length
 ·rw [if_pos p,if_neg (by omega)]; rw [if_pos p]
 ·rw [if_neg p];by_cases q:12 <= i/\i < 12 + y.length
  ·rw [if_pos q,if_pos q]
  ·grind
theorem Xxe (w:WT s.X) (h1:k ≠ [1]) (hk:s.X k=some (.c l)) (ho:o + xs.length <= l.length) (h12:k=[0]->o + xs.length <= 12\/15 <= o) :
  stF (toX c s) k o xs=toX c { s with X:=stF s.X k o xs }:=by
 obtain ⟨lr,hr,hr2⟩:=w.root;by_cases h0:k=[0]
 ·subst h0;rw [hk] at hr;cases hr;have h12:=h12 rfl;rw [X1b (X7g hk)];have hX:stF s.X [0] o xs=s.X.set [0] (some (.c (l.take o ++ xs.map .v ++ l.drop (o + xs.length)))):=X1b hk _ _;have hX0:stF s.X [0] o xs [0]=some (.c (l.take o ++ xs.map .v ++ l.drop (o + xs.length))):=by rw [hX,NX.set_eq]
  have hp:=put3 hr2 ((midV c s).map .v) (xs.map Cl.v) rfl o (by grind) (by grind);rw [List.length_map] at hp;rw [hp];have e:toX c { s with X:=stF s.X [0] o xs }=(stF (stF s.X [0] o xs) [0] 12 (midV c s)).set [1] (some (.c (cc c s.cu))):=rfl;rw [e,X1b hX0,hX,NX.set_set];unfold toX;rw [X1b hk,X26 _ _ _ (show ([1]:Key) ≠ [0] by decide),NX.set_set];rfl
 ·rw [X1b (show toX c s k=some (.c l) by rw [X6e h1 h0]; exact hk)];have hX:stF s.X k o xs=s.X.set k (some (.c (l.take o ++ xs.map .v ++ l.drop (o + xs.length)))):=X1b hk _ _;have hX0:stF s.X k o xs [0]=some (.c lr):=by simp [hX,NX.set_ne,Ne.symm,h0,hr]
  have e:toX c { s with X:=stF s.X k o xs }=(stF (stF s.X k o xs) [0] 12 (midV c s)).set [1] (some (.c (cc c s.cu))):=rfl;rw [e,X1b hX0,hX];unfold toX;rw [X1b hr,X26 _ _ _ (Ne.symm h1),X26 _ _ _ (Ne.symm h0)]
theorem PS.ldv (h:PS c cap m φ s) {y:Value} (h1:k ≠ [1]) (hk:s.X k=some (.c l)) (h12:k=[0]->o < 12\/15 <= o) (hy:l[o]?=some (.v y)):X8 false 1 (pt (φ k).b o (φ k).ver) m=some y:=by
 obtain ⟨l',a,_,b⟩:=X7n (c:=c) h.wt h1 hk;exact h.nr.load (c:=.v y) a (by grind)
theorem PS.ldl (h:PS c cap m φ s) {sz:Nat} (h1:k ≠ [1]) (hk:s.X k=some (.c l)) (h12:k=[0]->o < 12\/15 <= o) (hy:l[o]?=some (.s n sz)):X8 false 1 (pt (φ k).b o (φ k).ver) m=some (slV (φ (o :: k)) n sz):=by
 obtain ⟨l',a,_,b⟩:=X7n (c:=c) h.wt h1 hk;exact h.nr.load (c:=.s n sz) a (by grind)
theorem W.stv (h:W c m0 φ0 s0 cap m φ s ts) {x:Value} (hk:s.X k=some (.c l)) (hr:kt k=some r) (hn:x.cells.size=n) (h1:x.cells.toList.all one=true) (ho:o + n <= l.length) (h12:k=[0]->o + n <= 12\/15 <= o) (hty:∀ i y,x.cells.toList[i]?=some y->okc (fdAt r (o + i)) (.v y)) {K:Mem->Option Rs} (g:∀ m1,W c m0 φ0 s0 cap m1 φ { s with X:=stF s.X k o x.cells.toList } ts->Res c m0 φ0 s0 (K m1) Q) :
  Res c m0 φ0 s0 (bp (unt (Xd n (pt (φ k).b o (φ k).ver) x m)) fun _ m=>K m) Q:=by
 have hk1:=(X1l hr).1;have hnl:x.cells.toList.length=n:=by omega
 obtain ⟨l',a,al,b⟩:=X7n (c:=c) h.ps.wt hk1 hk;obtain ⟨m1,b1,b2,b3⟩:=h.ps.nr.put' (k:=k) o n x _ a hn h1 (by omega) (fun i hi=>by
  obtain ⟨d,d1,d2⟩:=h.ps.wt.get hk hr (o:=o + i) (by omega);obtain ⟨y,hy⟩:∃ y,x.cells.toList[i]?=some y:=⟨_,List.getElem?_eq_getElem (by omega)⟩
  obtain ⟨z,rfl⟩:=Xyd (hty i y hy) d2;refine ⟨z,?_⟩;rw [b (o + i) (fun e=>by grind)];exact d1) rfl
 have e:(toX c s).set k (some (.c (l'.take o ++ x.cells.toList.map .v ++ l'.drop (o + n))))=toX c { s with X:=stF s.X k o x.cells.toList }:=by
  rw [<- Xxe h.ps.wt hk1 hk (by omega) (by grind),X1b a,hnl]
 rw [e] at b2 b3;rw [b1,Xo];exact g m1 (h.go (h.ps.step b2 b3 ⟨rfl,rfl,rfl⟩ ⟨h.ps.ok.le,h.ps.ok.ee,h.ps.wt.st hk hr (by omega) hty,h.ps.ok.il,h.ps.ok.ge.to fun k' o' _=>Nat.le_of_eq (Xp0 h.ps.wt hk hr (by rw [hnl]; exact ho) hty k' o').symm⟩) b3)
theorem Xq5 (h:PS c cap m φ s) (hk:s.X k=some (.c l)) (hr:kt k=some r) (hf:fdAt r o=some (.l r')) (ho:l[o]?=some (.s n (rowL r'))) :
  n <= cap/\(X25 s.X (o :: k)).length=n * rowL r'/\X25 (toX c s) (o :: k)=X25 s.X (o :: k):=by
 have hk1:=(X1l hr).1;have hr2:=X2d hr hf;have hk2:=(X1l hr2).1;have hk0:o :: k ≠ [0]:=fun e=>by injection e with e1 e2; exact X3f hr e2
 obtain ⟨l',a,al,b⟩:=X7n (c:=c) h.wt hk1 hk;have h12:k=[0]->o < 12\/15 <= o:=fun e=>by
  subst e;cases hr;rcases Nat.lt_or_ge o 12 with q | q
  ·exact .inl q
  ·refine .inr (Nat.le_of_not_lt fun q2=>?_);have:o=12\/o=13\/o=14:=by omega
   rcases this with rfl | rfl | rfl <;> cases hf
 have:=h.nr.ow k l' o n (rowL r') a (by rw [b o h12]; exact ho);have e:X25 (toX c s) (o :: k)=X25 s.X (o :: k):=by unfold X25; rw [X6e hk2 hk0]
 refine ⟨this.1,?_,e⟩;have w:=this.2.2;rw [X6e hk2 hk0] at w;unfold X25;by_cases hz:n=0
 ·rw [if_pos hz] at w;rw [w,hz]; simp
 ·rw [if_neg hz] at w;obtain ⟨l2,w1,w2⟩:=w;rw [w1]; exact w2
theorem Xxj {cs:List Cl} (w:WT s.X) (hk:s.X k=some (.c l)) (hr:kt k=some r) (hf:fdAt r o=some (.l r')) (ho:l[o]?=some (.s n (rowL r'))) (hc:cs.length=rowL r') (a:toX c s k=some (.c l')) :
  ((toX c s).set (o :: k) (some (.c (X25 s.X (o :: k) ++ cs)))).set k (some (.c (l'.set o (.s (n + 1) (rowL r')))))=toX c { s with X:=apF s.X k o cs }:=by
 obtain ⟨lr,hrt,hr2⟩:=w.root;have hk1:=(X1l hr).1;have hk2:o :: k ≠ [1]:=fun e=>by injection e with e1 e2; exact X3f hr e2
 have hk0:o :: k ≠ [0]:=fun e=>by injection e with e1 e2; exact X3f hr e2
 have hX:=Xbf hk ho cs hc;have e:toX c { s with X:=apF s.X k o cs }=(stF (apF s.X k o cs) [0] 12 (midV c s)).set [1] (some (.c (cc c s.cu))):=rfl;have hko:o :: k ≠ k:=X3c o k;rw [e];by_cases h0:k=[0]
 ·subst h0;rw [hk] at hrt;cases hrt;rw [X7g hk] at a;cases a;have hX0:apF s.X [0] o cs [0]=some (.c (l.set o (.s (n + 1) (rowL r')))):=by rw [hX,NX.set_eq]
  have h12:o < 12\/15 <= o:=by
   cases hr;rcases Nat.lt_or_ge o 12 with q | q
   ·exact .inl q
   ·refine .inr (Nat.le_of_not_lt fun q2=>?_);have:o=12\/o=13\/o=14:=by omega
    rcases this with rfl | rfl | rfl <;> cases hf
  have hol:o < l.length:=(List.getElem?_eq_some_iff.mp ho).1;have hl:(l.take 12 ++ (midV c s).map Cl.v ++ l.drop 15).set o (.s (n + 1) (rowL r'))=(l.set o (.s (n + 1) (rowL r'))).take 12 ++ (midV c s).map .v ++ (l.set o (.s (n + 1) (rowL r'))).drop (12 + (midV c s).length):=by
   apply List.ext_getElem?;intro i;have ml:((midV c s).map Cl.v).length=3:=rfl;have g1:=get_put (l:=l) (z:=(midV c s).map Cl.v) (o:=12) (by rw [ml]; omega) i;have g2:=get_put (l:=l.set o (.s (n + 1) (rowL r'))) (z:=(midV c s).map Cl.v) (o:=12) (by rw [ml,List.length_set]; omega) i;have g3:(l.take 12 ++ (midV c s).map Cl.v ++ l.drop 15).length=18:=by simp [midV]; omega
   rw [ml] at g1 g2;rw [List.getElem?_set];refine Eq.trans ?_ g2.symm;show (if o=i then if o < _ then _ else none else (l.take 12 ++ (midV c s).map Cl.v ++ l.drop (12 + 3))[i]?)=_;rw [g1,g3,List.getElem?_set];by_cases q:o=i
   ·subst q;rw [if_pos rfl,if_pos (by omega),if_neg (by omega),if_pos rfl,if_pos hol]
   ·rw [if_neg q,if_neg q]
  rw [X1b hX0,hX,hl];unfold toX;rw [X1b hk,NX.set_set,X26 _ _ _ (Ne.symm hk2),X26 _ _ _ (show ([1]:Key) ≠ [0] by decide),X26 s.X _ _ (Ne.symm hk0),NX.set_set]
 ·have hl':l'=l:=by
   rw [X6e hk1 h0,hk] at a;cases a; rfl
  subst hl';have hX0:apF s.X k o cs [0]=some (.c lr):=by simp [hX,NX.set_ne,Ne.symm,h0,hk0,hrt]
  rw [X1b hX0,hX];unfold toX;rw [X1b hrt,X26 _ _ _ (Ne.symm hk2),X26 _ _ _ (Ne.symm hk0),X26 _ _ _ (Ne.symm hk1),X26 _ _ _ (Ne.symm h0)]
theorem W.apv2 {cs:List Cl} (h:W c m0 φ0 s0 cap m φ s ((b2,0,cs.map Cl.raw) :: ts)) (hk:s.X k=some (.c l)) (hr:kt k=some r) (hf:fdAt r o=some (.l r')) (ho:l[o]?=some (.s n (rowL r'))) (hc:cs.length=rowL r') (hnew:cs.all Cl.new=true) (hcs:∀ (i:Nat) (d:Cl),cs[i]?=some d->okc ((rowT r')[i]?) d) (hb:fits (n + 1) bytes=true) {K:Mem->Option Rs} {K2:Value->Mem->Option Rs} (hK:∀ v' m1,(∀ a,toX c s a ≠ none->a ≠ o :: k->m1.get (φ a).b=m.get (φ a).b)->K2 v' m1=bp (unt (Xd 1 (pt (φ k).b o (φ k).ver) v' m1)) fun _ m=>K m) (g:∀ cap1 m1 φ1,cap1 <= cap + 1->(∀ k',k' ≠ o :: k->φ1 k'=φ k')->W c m0 φ0 s0 cap1 m1 φ1 { s with X:=apF s.X k o cs } ts->Res c m0 φ0 s0 (K m1) Q) :
  Res c m0 φ0 s0 (bp (apS e (rowL r') bytes (slV (φ (o :: k)) n (rowL r')) (.slice (some ⟨b2,0,some (rowL r')⟩) 1 1) m) K2) Q:=by
 have hk1:=(X1l hr).1;obtain ⟨hcap,hol,hoe⟩:=Xq5 h.ps hk hr hf ho;obtain ⟨l',a,al,b⟩:=X7n (c:=c) h.ps.wt hk1 hk;have h12:k=[0]->o < 12\/15 <= o:=fun e=>by
  subst e;cases hr;rcases Nat.lt_or_ge o 12 with q | q
  ·exact .inl q
  ·refine .inr (Nat.le_of_not_lt fun q2=>?_);have:o=12\/o=13\/o=14:=by omega
   rcases this with rfl | rfl | rfl <;> cases hf
 obtain ⟨ty2,hb2⟩:=h.at' _ (List.mem_cons_self ..);obtain ⟨v',m1,m2,φ',q1,q2,q3,q4,q5,_,_,q8⟩:=h.ps.nr.app (e:=e) (bytes:=bytes) (cs:=cs) a (by rw [b o h12]; exact ho) hb2 hc hnew hb;rw [hoe,Xxj h.ps.wt hk hr hf ho hc a] at q3 q4;have q1:apS e (rowL r') bytes (slV (φ (o :: k)) n (rowL r')) (.slice (some ⟨b2,0,some (rowL r')⟩) 1 1) m=some (v',m1):=q1;rw [q1,X4,hK _ _ q8,q2,Xo];have hk0:([0]:Key) ≠ o :: k:=fun e=>by injection e with e1 e2; exact X3f hr e2.symm
 have hk2:([1]:Key) ≠ o :: k:=fun e=>by injection e with e1 e2; exact X3f hr e2.symm
 have hk3:([2]:Key) ≠ o :: k:=fun e=>by injection e with e1 e2; exact X3f hr e2.symm
 refine g (max cap (n + 1)) m2 φ' (by omega) q5 ((h.go (h.ps.step q3 q4 ⟨q5 _ hk0,q5 _ hk2,q5 _ hk3⟩ ⟨h.ps.ok.le,h.ps.ok.ee,h.ps.wt.ap hk hr hf ho hol hc hcs,h.ps.ok.il,h.ps.ok.ge.to fun k' o' _=>Xoo hk ho cs hc k' o'⟩) q4).tl)
theorem W.apv {cs:List Cl} (h:W c m0 φ0 s0 cap m φ s ((b2,0,cs.map Cl.raw) :: ts)) (hk:s.X k=some (.c l)) (hr:kt k=some r) (hf:fdAt r o=some (.l r')) (ho:l[o]?=some (.s n (rowL r'))) (hc:cs.length=rowL r') (hnew:cs.all Cl.new=true) (hcs:∀ (i:Nat) (d:Cl),cs[i]?=some d->okc ((rowT r')[i]?) d) (hb:fits (n + 1) bytes=true) {K:Mem->Option Rs} (g:∀ cap1 m1 φ1,cap1 <= cap + 1->(∀ k',k' ≠ o :: k->φ1 k'=φ k')->W c m0 φ0 s0 cap1 m1 φ1 { s with X:=apF s.X k o cs } ts->Res c m0 φ0 s0 (K m1) Q) :
  Res c m0 φ0 s0 (bp (apS e (rowL r') bytes (slV (φ (o :: k)) n (rowL r')) (.slice (some ⟨b2,0,some (rowL r')⟩) 1 1) m) fun x m=>bp (unt (Xd 1 (pt (φ k).b o (φ k).ver) x m)) fun _ m=>K m) Q:=
 h.apv2 hk hr hf ho hc hnew hcs hb (fun _ _ _=>rfl) g
variable {c:Cx} {m0 m:Mem} {φ0 φ:Phi} {s0 s s':PSt} {cap:Nat} {ts:List Tmp} {x:Option Rs} {Q:Value->Nat->Phi->PSt->Prop} {v:Value} {cu:Cu}
def StC (c:Cx) (cap:Nat) (m:Mem) (φ:Phi) (s:PSt) (x:Option Rs) (v:Value) (s':PSt):Prop:=
 ∃ m',x=some (v,m')/\PS c cap m' φ s'/\Wk m φ (toX c s) m' φ (toX c s')
abbrev Q_s (cap:Nat) (φ:Phi) (v:Value) (s':PSt):Value->Nat->Phi->PSt->Prop:=fun v' cap1 φ1 s1=>v'=v/\cap1=cap/\φ1=φ/\s1=s'
theorem StC.ofRes (h:Res c m φ s x (Q_s cap φ v s')):StC c cap m φ s x v s':=by
 obtain ⟨v',m1,cap1,φ1,s1,a1,a2,a3,rfl,rfl,rfl,rfl⟩:=h;exact ⟨m1,a1,a2,a3⟩
theorem W.cs (h:W c m0 φ0 s0 cap m φ s ts) {w:Value} (law:StC c cap m φ s y w s') {k:Value->Mem->Option Rs} (g:∀ m1,W c m0 φ0 s0 cap m1 φ s' ts->Res c m0 φ0 s0 (k w m1) Q):Res c m0 φ0 s0 (bp y k) Q:=by
 obtain ⟨m1,a1,a2,a3⟩:=law;rw [a1,X4];exact g m1 (h.go a2 a3)
theorem W.rets (h:W c m0 φ s0 cap m φ s' ts):Res c m0 φ s0 (some (v,m)) (Q_s cap φ v s'):=h.ret ⟨rfl,rfl,rfl,rfl⟩
theorem W.str (h:W c m0 φ0 s0 cap m φ s ts) {x:Value} (hk:s.X [0]=some (.c l)) (hn:x.cells.size=n) (h1:x.cells.toList.all one=true) (ho:o + n <= 18) (h12:o + n <= 12\/15 <= o) (hty:∀ i y,x.cells.toList[i]?=some y->okc (fdAt 0 (o + i)) (.v y)) {K:Mem->Option Rs} (g:∀ m1,W c m0 φ0 s0 cap m1 φ { s with X:=stF s.X [0] o x.cells.toList } ts->Res c m0 φ0 s0 (K m1) Q) :
  Res c m0 φ0 s0 (bp (unt (Xd n (pt c.P o 0) x m)) fun _ m=>K m) Q:=by
 have e:pt c.P o 0=pt (φ [0]).b o (φ [0]).ver:=by rw [h.ps.pP]
 obtain ⟨l2,a,b⟩:=h.ps.wt.root;rw [hk] at a;cases a;rw [e];exact h.stv hk rfl hn h1 (by omega) (fun _=>h12) hty g
theorem PS.root (h:PS c cap m φ s):∃ l,s.X [0]=some (.c l)/\l.length=18/\∀ o y,(o < 12\/15 <= o)->l[o]?=some (.v y)->X8 false 1 (pt c.P o 0) m=some y:=by
 obtain ⟨l,a,b⟩:=h.wt.root;refine ⟨l,a,b,fun o y ho hy=>?_⟩;have:=h.ldv (by decide) a (fun _=>ho) hy;rwa [h.pP] at this
theorem PS.mid (h:PS c cap m φ s) (i:Nat) (y:Value) (hi:(midV c s)[i]?=some y):X8 false 1 (pt c.P (12 + i) 0) m=some y:=by
 obtain ⟨l,a,b⟩:=h.wt.root;have hi3:i < 3:=(List.getElem?_eq_some_iff.mp hi).1;have e1:(l.take 12).length=12:=by simp; omega
 have:=h.nr.load (o:=12 + i) (c:=.v y) (X7g (c:=c) a) (by
  grind)
 rwa [h.pP] at this
theorem Xlk:∀ (w:List Str) (i:Nat),(ents w i).map (fun e=>strOf e.1)=w
 | [],_=>rfl
 | a :: l,i=>by
  show strOf (sv a) :: (ents l (i + 1)).map _=_;rw [Xlk l (i + 1)];rfl
theorem Xt6 (h:X [2]=some (setO w)):setOf X=w:=by
 unfold setOf;rw [h];exact Xlk w 0
theorem Xt9 (o:Option NO) (w:WT s.X):(toX c s).set [2] o=toX c { s with X:=s.X.set [2] o }:=by
 obtain ⟨l,a,b⟩:=w.root;have a2:s.X.set [2] o [0]=some (.c l):=by grind [NX.set_ne]
 have e:toX c { s with X:=s.X.set [2] o }=(stF (s.X.set [2] o) [0] 12 (midV c s)).set [1] (some (.c (cc c s.cu))):=rfl;rw [e,X1b a2];unfold toX;rw [X1b a,X26 _ _ _ (show ([1]:Key) ≠ [2] by decide),X26 _ _ _ (show ([0]:Key) ≠ [2] by decide)]
theorem Xxl (h:s.X [2]=some (setO w)):toX c s [2]=some (setO w):=by simp_all [X6e]
theorem WT.set2 (h:WT X) (w:List Str):WT (X.set [2] (some (setO w))) where
 root:=by simp [NX.set_ne,h.root]
 set:=⟨w,NX.set_eq _ _ _⟩
 no1:=by simp [NX.set_ne,h.no1]
 ty:=fun k l hk=>by
  by_cases e:k=[2]
  ·rw [e,NX.set_eq] at hk;cases hk
  ·rw [NX.set_ne _ _ e] at hk;exact h.ty k l hk
theorem Xu8 (h:X k=some (.c l)) (ho:l[o]?=some (.v (.bool b))):bOf X k o=b:=by
 unfold bOf vOf;rw [Xx9 h ho]
theorem X9x (h:PS c cap m φ s) {v:Value} (hv:SLx c m φ s v ws) (hn:ws.length <= 140737488355328) (hl:(X2q [32] ws).length <= 140737488355328) (d:Nat):StC c cap m φ s (TA (d + 1) Q2w [pt c.P 0 0,v] m) (.tuple ⟨[]⟩) (X1s s ws):=by
 rw [X6w];refine StC.ofRes (h.call1 ?_);have k:=W.start (h.wl' m.next);have kv:SLx c (withLow m m.next) φ s v ws:=hv;generalize withLow m m.next=m0 at k kv;delta Q4k C E;have r:TA d Q3t [v,.string ⟨#[32]⟩] m0=some (sv (X2q [32] ws),m0):=c_Join v ws [32] m0 kv.sl hn hl d;simp only [r,X4];delta Qbw Q qa N Z qe qf;obtain ⟨l,hk,hl18,ld⟩:=k.ps.root;obtain ⟨w,hw⟩:=k.ps.wt.set;obtain ⟨d15,q1,q2⟩:=k.ps.wt.get hk (r:=0) rfl (o:=15) (by omega);obtain ⟨b,rfl⟩:∃ b,d15=.v (.bool b):=by
  cases d15 with
  | v z=>obtain ⟨b,rfl⟩:=q2; exact ⟨b,rfl⟩
  | s n sz=>cases q2
 have l15:=ld 15 _ (.inr (by omega)) q1;have hb:=Xu8 hk q1;have l14:X8 false 1 (pt c.P 14 0) m0=some (mapV c.O):=k.ps.mid 2 _ rfl;have lk:=k.ps.nr.look (k:=[2]) (Xxl hw) (X2q [32] ws);rw [k.ps.pO] at lk;simp only [Xh,X9,X3,Nat.zero_add,l15,l14,lk];have fin:∀ m1,W c m0 φ s cap m1 φ { s with X:=stF s.X [0] 15 [.bool (b || decide (X2q [32] ws ∈ w))] } []->Res c m0 φ s (Q59 ⟨TA d,18446744073709551616⟩ (pt c.P 0 0) (sv (X2q [32] ws)) m1) (Q_s cap φ (.tuple ⟨[]⟩) (X1s s ws)):=fun m1 k1=>by
  delta Q59 qa qq qf qv;have l14:X8 false 1 (pt c.P 14 0) m1=some (mapV c.O):=k1.ps.mid 2 _ rfl;have hw1:(stF s.X [0] 15 [.bool (b || decide (X2q [32] ws ∈ w))]) [2]=some (setO w):=by
   simp [X1b,hk,NX.set_ne,hw]
  obtain ⟨m2,u1,u2,u3⟩:=k1.ps.nr.insert (k:=[2]) (Xxl (s:={ s with X:=stF s.X [0] 15 [.bool (b || decide (X2q [32] ws ∈ w))] }) hw1) (X2q [32] ws);rw [k1.ps.pO] at u1;rw [Xt9 _ k1.ps.wt] at u2 u3;simp only [Xh,X9,X3,Nat.zero_add,l14,u1,Xo];have e:X1s s ws={ s with X:=(stF s.X [0] 15 [.bool (b || decide (X2q [32] ws ∈ w))]).set [2] (some (setO (insS w (X2q [32] ws)))) }:=by
   unfold X1s;rw [Xt6 hw,hb]
  rw [e];exact (k1.go (k1.ps.step u2 u3 ⟨rfl,rfl,rfl⟩ ⟨k1.ps.ok.le,k1.ps.ok.ee,k1.ps.wt.set2 _,k1.ps.ok.il,k1.ps.ok.ge.to fun k' o' hk'=>Nat.le_of_eq (Xjl _ _ (by grind)).symm⟩) u3).rets
 cases b with
 | true =>
  rw [X7];refine k.str (o:=15) (n:=1) (x:=.bool true) hk rfl rfl (by omega) (.inr (by omega)) (fun i y hy=>?_) fun m1 k1=>fin m1 k1
  match i,hy with
  | 0,hy=>cases hy; exact ⟨true,rfl⟩
 | false =>
  rw [X6];refine k.str (o:=15) (n:=1) (x:=.bool (decide (X2q [32] ws ∈ w))) hk rfl rfl (by omega) (.inr (by omega)) (fun i y hy=>?_) fun m1 k1=>fin m1 (by rw [Bool.false_or]; exact k1)
  match i,hy with
  | 0,hy=>cases hy; exact ⟨_,rfl⟩
theorem Xxb {m:Mem} {v:Value} (h:SL m v ws):X1n 1 ws.length v m=some (ws.map sv):=by
 obtain ⟨b,o,r,cs,fro,ro,ty,rfl,h2,h3,h4,h5⟩:=h;have e:(cs.drop o).take ws.length=ws.map sv:=by
  apply List.ext_getElem?;intro i;rw [List.getElem?_take,List.getElem?_map];by_cases hi:i < ws.length
  ·grind
  ·grind
 simp [X1n,Xn,Xy,h3,h4,e]
theorem Xhq {m:Mem} {b:Nat} {v:Value} (hb:m.get b=some (.cells ws1 0 0 false ty)) (h1:ws1.all one=true) (h:SL m v ws) (hn:ws ≠ []) (hl:ws1.length + ws.length <= 65536) :
  apS e 1 16 (.slice (some ⟨b,0,some 1⟩) ws1.length 1) v m=some (.slice (some ⟨m.next,0,some 1⟩) (ws1.length + ws.length) 0,m.push (.cells (ws1 ++ ws.map sv) 0 0 false (some (2 * e)))):=by
 have hs:=Xxb h;obtain ⟨b2,o,r,cs,fro,ro,ty2,rfl,h2,h3,h4,h5⟩:=h;refine Xlg ?_;have hw:(ws.map sv).all one=true:=by
  rw [List.all_eq_true];intro y hy;obtain ⟨w,_,rfl⟩:=List.mem_map.mp hy;rfl
 have hn0:ws.length ≠ 0:=fun e=>hn (List.eq_nil_of_length_eq_zero e);have hf:fits (ws1.length + ws.length) 16=true:=by
  grind [fits,Nat.ble_eq.mpr]
 unfold X13;have e1:(Nat.beq ws.length 0 || Nat.beq (1 % 2) 1)=true:=by simp
 simp only [X2p,e1];unfold X1o;have e5:Nat.ble (0 + ws1.length * 1) ws1.length=true:=Nat.ble_eq.mpr (by omega);simp only [X2p,hs,hw,Bool.true_and,Bool.not_true,Bool.false_eq_true,if_false,hb,e5,hf,beq_self_eq_true,Bool.and_true,hn0,if_true];simp
theorem W.slx' (h:W c m0 φ0 s0 cap m φ s ts) {b:Nat} (hb:(b,0,ws.map sv) ∈ ts) (hn:n=ws.length) (hr:r < 2):SLx c m φ s (.slice (some ⟨b,0,some 1⟩) n r) ws:=by
 subst hn;obtain ⟨ty,q⟩:=h.at' _ hb;refine ⟨b,0,r,ws.map sv,0,false,ty,rfl,(h.lt _ hb).2,h.nx _ hb,by grind,by simp,fun i w hw=>?_⟩;rw [Nat.zero_add,List.getElem?_map,hw];rfl
theorem Xml (sep a:Str) (l:List Str):X2q sep (a :: l)=if l=[] then a else a ++ sep ++ X2q sep l:=by
 cases l with
 | nil=>simp [X2q,List.intercalate]
 | cons b l=>simp [X2q,List.intercalate]
theorem Xbs (B:Nat):∀ ws:List Str,(∀ w ∈ ws,w.length <= B)->(X2q [32] ws).length <= ws.length * (B + 1)
 | [],_=>Nat.zero_le _
 | a :: l,h=>by
  rw [Xml];have ha:=h a (List.mem_cons_self ..);have:=Xbs B l fun w hw=>h w (List.mem_cons_of_mem _ hw);have e:(a :: l).length * (B + 1)=l.length * (B + 1) + (B + 1):=by grind
  rw [e];split
  ·omega
  ·grind
theorem X5d (h:PS c cap m φ s) {v:Value} (hv:SLx c m φ s v ws) (h0:ws ≠ []) (hn:ws.length <= 16) (hl:∀ w ∈ ws,w.length <= 65536) (d:Nat):StC c cap m φ s (TA (d + 2) Q7 [pt c.P 0 0,v] m) (.tuple ⟨[]⟩) (Xz s ws):=by
 rw [X6u];refine StC.ofRes (h.call1 ?_);have k:=W.start (h.wl' m.next);have kv:SLx c (withLow m m.next) φ s v ws:=hv;generalize withLow m m.next=m0 at k kv;delta Q4f F qa qy E qo;have l13:X8 false 1 (pt c.P 13 0) m0=some (sv s.inn):=k.ps.mid 1 _ rfl;simp only [Xh,X9,X3,Nat.zero_add,l13];refine k.bsl (cs:=[sv [105,110],sv s.inn,sv [46]]) rfl (by decide) fun b m1 k1=>?_;have kv1:=kv.wk k1.wk;obtain ⟨ty,hb⟩:=k1.at' _ (List.mem_cons_self ..);have e:=Xhq (e:=Q4) (ws1:=[sv [105,110],sv s.inn,sv [46]]) hb rfl kv1.sl h0 (by simp; omega);have e:apS Q4 1 16 (.slice (some ⟨b,0,some 1⟩) 3 1) v m1=_:=e;rw [e,X4];have k2:=k1.push ([sv [105,110],sv s.inn,sv [46]] ++ ws.map sv) (some (2 * Q4));have hlen:=Xbs SB ([[105,110],s.inn,[46]] ++ ws) (fun w hw=>by
  have:=k1.ps.ok.il;simp only [List.cons_append,List.nil_append,List.mem_cons] at hw;rcases hw with rfl | rfl | rfl | hw
  ·decide
  ·exact this
  ·decide
  ·grind)
 refine k2.cs (X9x k2.ps (ws:=[[105,110],s.inn,[46]] ++ ws) (k2.slx' (List.mem_cons_self ..) (by simp; omega) (by omega)) (by simp; omega) (Nat.le_trans hlen (by
  grind)) d) fun m3 k3=>?_
 exact k3.rets
theorem W.midE (h:W c m0 φ0 s0 cap m φ s ts) (i:Nat) (y:Value) (hi:i < 3) (hy:y.cells.toList=[y]) (h1:one y=true) {s':PSt} (hm:midV c s'=(midV c s).set i y) (hX:s'.X=s.X) (hcu:s'.cu=s.cu) (hil:s'.inn.length <= SB):∃ m1,Xd 1 (pt c.P (12 + i) 0) y m=some m1/\W c m0 φ0 s0 cap m1 φ s' ts:=by
 obtain ⟨l,a,b⟩:=h.ps.wt.root;have ml:(midV c s).length=3:=rfl;have hroot:=X7g (c:=c) a;have e0:(l.take 12).length=12:=by simp; omega
 have hs:y.cells.size=1:=by rw [<- Array.length_toList,hy]; rfl
 have hL:(l.take 12 ++ (midV c s).map Cl.v ++ l.drop 15).take (12 + i) ++ y.cells.toList.map Cl.v ++ (l.take 12 ++ (midV c s).map Cl.v ++ l.drop 15).drop (12 + i + 1)=l.take 12 ++ (midV c s').map Cl.v ++ l.drop 15:=by
  rw [hy,hm];apply List.ext_getElem?;intro j;have e15:∀ z:List Cl,z.length=3->(l.take 12 ++ z ++ l.drop 15)[j]?=if 12 <= j/\j < 15 then z[j - 12]? else l[j]?:=fun z hz=>by
   grind
  have g1:=get_put (l:=l.take 12 ++ (midV c s).map Cl.v ++ l.drop 15) (z:=[Cl.v y]) (o:=12 + i) (by grind) j;refine Eq.trans g1 ?_;rw [e15 _ (by simp [ml]),e15 _ (by simp [ml])];show (if 12 + i <= j/\j < 12 + i + 1 then [Cl.v y][j - (12 + i)]? else _)=_;by_cases p:12 + i <= j/\j < 12 + i + 1
  ·have:j=12 + i:=by omega
   subst this;rw [if_pos p,if_pos (by omega),List.getElem?_map,Nat.add_sub_cancel_left,List.getElem?_set,if_pos rfl,if_pos (by rw [ml]; exact hi),Nat.sub_self];rfl
  ·rw [if_neg p];by_cases q:12 <= j/\j < 15
   ·rw [if_pos q,if_pos q,List.getElem?_map,List.getElem?_map,List.getElem?_set,if_neg (by omega)]
   ·rw [if_neg q,if_neg q]
 obtain ⟨m1,u1,u2,u3⟩:=h.ps.nr.put' (k:=[0]) (12 + i) 1 y _ hroot hs (by grind) (by grind) (fun j hj=>by
  have:j=0:=by omega
  subst this;have hii:i < (midV c s).length:=hi;refine ⟨(midV c s)[i],?_⟩;rw [Nat.add_zero,get3,e0,if_neg (by omega),List.length_map,ml,if_pos (by omega),List.getElem?_map,Nat.add_sub_cancel_left,List.getElem?_eq_getElem hii];rfl) hL
 rw [h.ps.pP] at u1;have e:(toX c s).set [0] (some (.c (l.take 12 ++ (midV c s').map Cl.v ++ l.drop 15)))=toX c s':=by
  unfold toX;rw [hX,hcu,X1b a,X1b a,X26 _ _ _ (show ([1]:Key) ≠ [0] by decide),NX.set_set];rfl
 rw [e] at u2 u3;have u1:Xd 1 (pt c.P (12 + i) 0) y m=some m1:=u1;exact ⟨m1,u1,h.go (h.ps.step u2 u3 ⟨rfl,rfl,rfl⟩ ⟨by rw [hcu]; exact h.ps.ok.le,by rw [hcu]; exact h.ps.ok.ee,by rw [hX]; exact h.ps.ok.wt,hil,by rw [hX]; exact h.ps.ok.ge⟩) u3⟩
theorem W.mid (h:W c m0 φ0 s0 cap m φ s ts) (i:Nat) (y:Value) (hi:i < 3) (hy:y.cells.toList=[y]) (h1:one y=true) {s':PSt} (hm:midV c s'=(midV c s).set i y) (hX:s'.X=s.X) (hcu:s'.cu=s.cu) (hil:s'.inn.length <= SB) {K:Mem->Option Rs} (g:∀ m1,W c m0 φ0 s0 cap m1 φ s' ts->Res c m0 φ0 s0 (K m1) Q):Res c m0 φ0 s0 (bp (unt (Xd 1 (pt c.P (12 + i) 0) y m)) fun _ m=>K m) Q:=by
 obtain ⟨m1,u1,k1⟩:=h.midE i y hi hy h1 hm hX hcu hil;rw [u1,Xo];exact g m1 k1
theorem Xc2 (h:PS c cap m φ s) {v:Value} (hv:SLx c m φ s v ws) (hn:ws.length <= 3) (hl:∀ w ∈ ws,w.length <= 65536) (b:Nat) (hb:b ≠ 0) (d:Nat):StC c cap m φ s (TA (d + 2) Q27 [pt c.P 0 0,.func (.func b) ⟨[pt c.P 0 0]⟩ ⟨[]⟩,v] m) (.tuple ⟨[]⟩) (X8z s b ws):=by
 have hlen:=Xbs 65536 ws hl;have hlen2:(X2q [32] ws).length <= SB:=Nat.le_trans hlen (Nat.le_trans (Nat.mul_le_mul_right _ hn) (by decide));rw [X8p];refine StC.ofRes (h.call1 ?_);have k:=W.start (h.wl' m.next);have kv:SLx c (withLow m m.next) φ s v ws:=hv;generalize withLow m m.next=m0 at k kv;delta Q5v C Z E qv;refine k.cs (X9x k.ps kv (by omega) (Nat.le_trans hlen2 (by decide)) d) fun m1 k1=>?_;have kv1:=kv.wk k1.wk;have r:TA (d + 1) Q3t [v,.string ⟨#[32]⟩] m1=some (sv (X2q [32] ws),m1):=c_Join v ws [32] m1 kv1.sl (by omega) (Nat.le_trans hlen2 (by decide)) (d + 1);simp only [r,X4];simp only [Xh,X9,X3,Nat.zero_add];refine k1.mid 0 _ (by decide) rfl rfl (s':={ X1s s ws with blk:=b }) (by show [blkV c b,_,_]=[_,_,_]; unfold blkV; rw [if_neg hb]) rfl rfl k1.ps.ok.il fun m2 k2=>?_;refine k2.mid 1 _ (by decide) rfl rfl (s':={ X1s s ws with blk:=b,inn:=X2q [32] ws }) rfl rfl rfl hlen2 fun m3 k3=>?_;exact k3.rets
end Go.Ab.Sh
namespace Go.Ab
open Go
theorem Xas {n b:Nat} (h:n <= 8589934592) (hb:b <= 256):fits (n + 1) b=true:=by
 have h1:(n + 1) * b <= 8589934593 * 256:=Nat.mul_le_mul (by omega) hb;unfold fits;rw [Nat.ble_eq.mpr (by omega),Nat.ble_eq.mpr (by omega)];rfl
end Go.Ab
namespace Go.Ab.Sh
open Go Go.Ab Go.Lib
variable {a k:Key} {b2 bytes cap1 e f n o r r' sz:Nat} {cs l:List Cl} {s1:PSt} {t:Str} {w:Value} {xs:List Value} {y:Option Rs} {φ1:Phi}
variable {c:Cx} {m0 m:Mem} {φ0 φ:Phi} {s0 s s':PSt} {cap δ:Nat} {ts:List Tmp} {x:Option Rs} {Q:Value->Nat->Phi->PSt->Prop} {v:Value} {cu:Cu}
theorem X2f (s:PSt) (cu:Cu):(s.at cu).cu=cu:=rfl
abbrev Q_p (cap δ:Nat) (v:Value) (s':PSt):Value->Nat->Phi->PSt->Prop:=fun v' cap1 _ s1=>v'=v/\cap1 <= cap + δ/\s1=s'
def PaD (c:Cx) (cap δ:Nat) (m:Mem) (φ:Phi) (s:PSt) (x:Option Rs) (v:Value) (s':PSt):Prop:=Res c m φ s x (Q_p cap δ v s')
theorem PS.pad (h:PS c cap m φ s) {b:Mem->Option Rs} (ht:x=outOf m (b (withLow m m.next))) (go:∀ m0,W c m0 φ s cap m0 φ s []->Res c m0 φ s (b m0) (Q_p cap δ v s')):PaD c cap δ m φ s x v s':=by
 subst ht;exact h.call (b:=b) _ fun m0 k=>go m0 (W.start k)
theorem PS.stR (h:PS c cap m φ s) {b:Mem->Option Rs} (ht:x=outOf m (b (withLow m m.next))) (go:∀ m0,W c m0 φ s cap m0 φ s []->Res c m0 φ s (b m0) (Q_s cap φ v s')):StC c cap m φ s x v s':=by
 subst ht;exact StC.ofRes (h.call (b:=b) _ fun m0 k=>go m0 (W.start k))
theorem W.pd (h:W c m0 φ0 s0 cap m φ s ts) (law:PaD c cap δ m φ s y w s1) {k:Value->Mem->Option Rs} (g:∀ cap1 m1 φ1,cap1 <= cap + δ->W c m0 φ0 s0 cap1 m1 φ1 s1 ts->Res c m0 φ0 s0 (k w m1) Q):Res c m0 φ0 s0 (bp y k) Q:=by
 obtain ⟨v',m1,cap1,φ1,s1',a1,a2,a3,rfl,a4,rfl⟩:=law;rw [a1,X4];exact g cap1 m1 φ1 a4 (h.go a2 a3)
theorem W.retp (h:W c m0 φ s cap1 m φ1 s' ts) (hc:cap1 <= cap + δ):Res c m0 φ s (some (v,m)) (Q_p cap δ v s'):=h.ret ⟨rfl,hc,rfl⟩
theorem StC.pad (h:StC c cap m φ s x v s'):PaD c cap δ m φ s x v s':=by
 obtain ⟨m',a1,a2,a3⟩:=h;exact ⟨v,m',cap,φ,s',a1,a2,a3,rfl,Nat.le_add_right _ _,rfl⟩
theorem W.cl (h:W c m0 φ0 s0 cap m φ s ts) (law:CuC c cap m φ s y w cu) {k:Value->Mem->Option Rs} (g:∀ m1,W c m0 φ0 s0 cap m1 φ (s.at cu) ts->Res c m0 φ0 s0 (k w m1) Q):Res c m0 φ0 s0 (bp y k) Q:=by
 obtain ⟨m1,a1,a2,a3⟩:=law;rw [a1,X4];exact g m1 (h.go a2 a3)
theorem Xa3 (o:Option NO) (hr:s.X [0]=some (.c l)) (h1:a ≠ [1]) (h0:a ≠ [0]):(toX c s).set a o=toX c { s with X:=s.X.set a o }:=by
 have a2:s.X.set a o [0]=some (.c l):=by simp [NX.set_ne,Ne.symm,h0,hr]
 have e:toX c { s with X:=s.X.set a o }=(stF (s.X.set a o) [0] 12 (midV c s)).set [1] (some (.c (cc c s.cu))):=rfl;rw [e,X1b a2];unfold toX;rw [X1b hr,X26 _ _ _ (Ne.symm h1),X26 _ _ _ (Ne.symm h0)]
theorem Xzo (hr:kt k=some r) (hf:fdAt r o=some (.l r')) (e:k=[0]):o < 12\/15 <= o:=by
 subst e;cases hr;rcases Nat.lt_or_ge o 12 with q | q
 ·exact .inl q
 ·refine .inr (Nat.le_of_not_lt fun q2=>?_);have:o=12\/o=13\/o=14:=by omega
  rcases this with rfl | rfl | rfl <;> cases hf
theorem fd_row (hs:rowL r=sz) (i f:Nat) (h:f < sz):fdAt r (i * sz + f)=(rowT r)[f]?:=by subst hs; exact fdAt_row r i f h
theorem ok_s (h:t.length <= SB):okc (some .s) (.v (sv t)):=⟨t,rfl,h⟩
theorem ok_i (k:IntKind) (z:Int):okc (some (.i k)) (.v (.int k z)):=⟨z,rfl⟩
theorem ok_b (b:Bool):okc (some .b) (.v (.bool b)):=⟨b,rfl⟩
theorem ok_l (r n:Nat):okc (some (.l r)) (.s n (rowL r)):=rfl
theorem PS.list (h:PS c cap m φ s) (hk:s.X k=some (.c l)) (hr:kt k=some r) (ho:o < l.length) (hf:fdAt r o=some (.l r')) :
  l[o]?=some (.s (nOf s.X k o) (rowL r'))/\nOf s.X k o <= cap/\X8 false 1 (pt (φ k).b o (φ k).ver) m=some (slV (φ (o :: k)) (nOf s.X k o) (rowL r'))/\(nOf s.X k o=0->s.X (o :: k)=none) /\
   (nOf s.X k o ≠ 0->∃ l',s.X (o :: k)=some (.c l')/\l'.length=nOf s.X k o * rowL r'/\(φ (o :: k)).r < 2):=by
 obtain ⟨c',q1,q2⟩:=h.wt.get hk hr ho;rw [hf] at q2;cases c' with
 | v x=>exact False.elim q2
 | s n sz =>
  have q2:sz=rowL r':=q2;subst q2;have e:nOf s.X k o=n:=by unfold nOf; rw [X6i hk,q1]; rfl
  rw [e];have hk1:=(X1l hr).1;have hr2:=X2d hr hf;have hk2:=(X1l hr2).1;have hk0:o :: k ≠ [0]:=fun e=>by injection e with e1 e2; exact X3f hr e2
  have h12:=Xzo hr hf;obtain ⟨l',a,al,b⟩:=X7n (c:=c) h.wt hk1 hk;have w:=h.nr.ow k l' o n (rowL r') a (by rw [b o h12]; exact q1);rw [X6e hk2 hk0] at w;refine ⟨q1,w.1,h.ldl hk1 hk h12 q1,fun hz=>?_,fun hz=>?_⟩
  ·have:=w.2.2;rw [if_pos hz] at this;exact this
  ·have:=w.2.2;rw [if_neg hz] at this;obtain ⟨l2,a1,a2⟩:=this;exact ⟨l2,a1,a2,h.nr.r2 _ (by rw [X6e hk2 hk0,a1]; simp)⟩
theorem PS.dev (h:PS c cap m φ s) (hf:fdAt 0 f=some (.l r')) (h18:f < 18) (hs:rowL r'=sz) :
  (∃ l,s.X [0]=some (.c l)/\f < l.length)/\nOf s.X [0] f <= cap/\X8 false 1 (pt c.P f 0) m=some (slV (φ [f,0]) (nOf s.X [0] f) sz)/\(nOf s.X [0] f=0->s.X [f,0]=none) /\
   (nOf s.X [0] f ≠ 0->∃ l',s.X [f,0]=some (.c l')/\l'.length=nOf s.X [0] f * sz/\(φ [f,0]).r < 2):=by
 subst hs;obtain ⟨l,a,b⟩:=h.wt.root;obtain ⟨_,q2,q3,q4,q5⟩:=h.list a (r:=0) rfl (by omega) hf;rw [h.pP] at q3;exact ⟨⟨l,a,by omega⟩,q2,q3,q4,q5⟩
theorem subI (h:0 < n) (h2:n <= 4611686018427387904):bin .sub true true .int (I n) (.int .i64 1)=some (I (n - 1:Nat)):=by
 rw [Qhs];have:((n:Nat):Int) - 1=((n - 1:Nat):Int):=by omega
 rw [this,wrap64 _ (by omega)]
theorem PS.lrow (h:PS c cap m φ s) (hc:cap <= 8589934592) (hk:s.X k=some (.c l)) (hr:kt k=some r) (ho:o < l.length) (hf:fdAt r o=some (.l r')) (hs:rowL r'=sz) (hn:0 < nOf s.X k o) :
  ∃ l',s.X (o :: k)=some (.c l')/\l'.length=nOf s.X k o * sz/\(nOf s.X k o - 1) * sz + sz <= l'.length/\X8 false 1 (pt (φ k).b o (φ k).ver) m=some (slV (φ (o :: k)) (nOf s.X k o) sz) /\
   bin .sub true true .int (I (nOf s.X k o)) (.int .i64 1)=some (I (nOf s.X k o - 1:Nat))/\Xa sz (slV (φ (o :: k)) (nOf s.X k o) sz) (I (nOf s.X k o - 1:Nat))=some (pt (φ (o :: k)).b ((nOf s.X k o - 1) * sz) (φ (o :: k)).ver):=by
 subst hs;obtain ⟨_,q2,q3,_,q5⟩:=h.list hk hr ho hf;obtain ⟨l',a1,a2,a3⟩:=q5 (by omega);refine ⟨l',a1,a2,?_,q3,subI hn (Nat.le_trans q2 (Nat.le_trans hc (by decide))),X3e _ a3 _ _ _ _ (by omega)⟩;rw [a2];generalize nOf s.X k o=n at hn;obtain ⟨n,rfl⟩:∃ j,n=j + 1:=⟨n - 1,by omega⟩
 rw [Nat.add_sub_cancel,Nat.add_mul,Nat.one_mul];exact Nat.le_refl _
theorem PS.last (h:PS c cap m φ s) (hc:cap <= 8589934592) (hf:fdAt 0 f=some (.l r')) (h18:f < 18) (hs:rowL r'=sz) (hn:0 < nOf s.X [0] f) :
  ∃ l',s.X [f,0]=some (.c l')/\l'.length=nOf s.X [0] f * sz/\(nOf s.X [0] f - 1) * sz + sz <= l'.length/\X8 false 1 (pt c.P f 0) m=some (slV (φ [f,0]) (nOf s.X [0] f) sz) /\
   bin .sub true true .int (I (nOf s.X [0] f)) (.int .i64 1)=some (I (nOf s.X [0] f - 1:Nat))/\Xa sz (slV (φ [f,0]) (nOf s.X [0] f) sz) (I (nOf s.X [0] f - 1:Nat))=some (pt (φ [f,0]).b ((nOf s.X [0] f - 1) * sz) (φ [f,0]).ver):=by
 obtain ⟨l,a,b⟩:=h.wt.root;have:=h.lrow hc a (r:=0) rfl (by omega) hf hs hn;rw [h.pP] at this;exact this
theorem W.st1 (h:W c m0 φ0 s0 cap m φ s ts) {x:Value} (hk:s.X k=some (.c l)) (hr:kt k=some r) (ho:o < l.length) (hx:x.cells=#[x]) (h1:one x=true) (h0:k ≠ [0]) (hty:okc (fdAt r o) (.v x)) {K:Mem->Option Rs} (g:∀ m1 l',stF s.X k o [x] k=some (.c l')->l'.length=l.length->W c m0 φ0 s0 cap m1 φ (s.sto k o [x]) ts->Res c m0 φ0 s0 (K m1) Q) :
  Res c m0 φ0 s0 (bp (unt (Xd 1 (pt (φ k).b o (φ k).ver) x m)) fun _ m=>K m) Q:=by
 have e:x.cells.toList=[x]:=by rw [hx]
 refine h.stv hk hr (by rw [hx]; rfl) (by rw [e]; simp [h1]) (by omega) (fun q=>absurd q h0) (fun i y hy=>?_) fun m1 k1=>?_
 ·rw [e] at hy
  match i,hy with
  | 0,hy=>cases hy; exact hty
 ·rw [e] at k1;refine g m1 _ (by rw [X1b hk,NX.set_eq]) ?_ k1;simp;omega
theorem W.stn (h:W c m0 φ0 s0 cap m φ s ts) (hk:s.X k=some (.c l)) (hr:kt k=some r) (hn:xs.length=n) (ho:o + n <= l.length) (h1:xs.all one=true) (h0:k ≠ [0]) (hty:∀ i y,xs[i]?=some y->okc (fdAt r (o + i)) (.v y)) {K:Mem->Option Rs} (g:∀ m1,W c m0 φ0 s0 cap m1 φ (s.sto k o xs) ts->Res c m0 φ0 s0 (K m1) Q) :
  Res c m0 φ0 s0 (bp (unt (Xd n (pt (φ k).b o (φ k).ver) (.agg ⟨xs⟩) m)) fun _ m=>K m) Q:=
 h.stv (x:=.agg ⟨xs⟩) hk hr hn h1 ho (fun q=>absurd q h0) hty g
theorem W.str1 (h:W c m0 φ0 s0 cap m φ s ts) {x:Value} (hx:x.cells=#[x]) (h1:one x=true) (ho:o < 18) (h12:o < 12\/15 <= o) (hty:okc (fdAt 0 o) (.v x)) {K:Mem->Option Rs} (g:∀ m1,W c m0 φ0 s0 cap m1 φ (s.sto [0] o [x]) ts->Res c m0 φ0 s0 (K m1) Q) :
  Res c m0 φ0 s0 (bp (unt (Xd 1 (pt c.P o 0) x m)) fun _ m=>K m) Q:=by
 have e:x.cells.toList=[x]:=by rw [hx]
 obtain ⟨l,a,b⟩:=h.ps.wt.root;refine h.str a (by rw [hx]; rfl) (by rw [e]; simp [h1]) (by omega) (by omega) (fun i y hy=>?_) fun m1 k1=>?_
 ·rw [e] at hy
  match i,hy with
  | 0,hy=>cases hy; exact hty
 ·rw [e] at k1;exact g m1 k1
theorem W.apk (h:W c m0 φ0 s0 cap m φ s ((b2,0,cs.map Cl.raw) :: ts)) (hcb:cap <= 8589934592) (hk:s.X k=some (.c l)) (hr:kt k=some r) (ho:o < l.length) (hf:fdAt r o=some (.l r')) (hs:rowL r'=sz) (hc:cs.length=sz) (hnew:cs.all Cl.new=true) (hcs:∀ (i:Nat) (d:Cl),cs[i]?=some d->okc ((rowT r')[i]?) d) (hb:bytes <= 256) {K:Mem->Option Rs} (g:∀ cap1 m1 φ1,cap1 <= cap + 1->(∀ k',k' ≠ o :: k->φ1 k'=φ k')->W c m0 φ0 s0 cap1 m1 φ1 (s.app k o cs) ts->Res c m0 φ0 s0 (K m1) Q) :
  Res c m0 φ0 s0 (bp (apS e sz bytes (slV (φ (o :: k)) (nOf s.X k o) sz) (.slice (some ⟨b2,0,some sz⟩) 1 1) m) fun x m=>bp (unt (Xd 1 (pt (φ k).b o (φ k).ver) x m)) fun _ m=>K m) Q:=by
 subst hs;obtain ⟨q1,q2,_⟩:=h.ps.list hk hr ho hf;exact h.apv hk hr hf q1 hc hnew hcs (Xas (Nat.le_trans q2 hcb) hb) g
theorem W.apk2 (h:W c m0 φ0 s0 cap m φ s ((b2,0,cs.map Cl.raw) :: ts)) (hcb:cap <= 8589934592) (hk:s.X k=some (.c l)) (hr:kt k=some r) (ho:o < l.length) (hf:fdAt r o=some (.l r')) (hs:rowL r'=sz) (hc:cs.length=sz) (hnew:cs.all Cl.new=true) (hcs:∀ (i:Nat) (d:Cl),cs[i]?=some d->okc ((rowT r')[i]?) d) (hb:bytes <= 256) {K:Mem->Option Rs} {K2:Value->Mem->Option Rs} (hK:∀ v' m1,(∀ a,toX c s a ≠ none->a ≠ o :: k->m1.get (φ a).b=m.get (φ a).b)->K2 v' m1=bp (unt (Xd 1 (pt (φ k).b o (φ k).ver) v' m1)) fun _ m=>K m) (g:∀ cap1 m1 φ1,cap1 <= cap + 1->(∀ k',k' ≠ o :: k->φ1 k'=φ k')->W c m0 φ0 s0 cap1 m1 φ1 (s.app k o cs) ts->Res c m0 φ0 s0 (K m1) Q) :
  Res c m0 φ0 s0 (bp (apS e sz bytes (slV (φ (o :: k)) (nOf s.X k o) sz) (.slice (some ⟨b2,0,some sz⟩) 1 1) m) K2) Q:=by
 subst hs;obtain ⟨q1,q2,_⟩:=h.ps.list hk hr ho hf;exact h.apv2 hk hr hf q1 hc hnew hcs (Xas (Nat.le_trans q2 hcb) hb) hK g
theorem Xsa {m m1:Mem} {b:Nat} (h:m1.get b=m.get b):X8 false 1 (pt b o r) m1=X8 false 1 (pt b o r) m:=by
 rw [Xbv,Xbv];simp only [Xh0,Xn,Xy,h]
theorem W.apr (h:W c m0 φ0 s0 cap m φ s ((b2,0,cs.map Cl.raw) :: ts)) (hcb:cap <= 8589934592) (h18:o < 18) (hf:fdAt 0 o=some (.l r')) (hs:rowL r'=sz) (hc:cs.length=sz) (hnew:cs.all Cl.new=true) (hcs:∀ (i:Nat) (d:Cl),cs[i]?=some d->okc ((rowT r')[i]?) d) (hb:bytes <= 256) {K:Mem->Option Rs} (g:∀ cap1 m1 φ1,cap1 <= cap + 1->(∀ k',k' ≠ [o,0]->φ1 k'=φ k')->W c m0 φ0 s0 cap1 m1 φ1 (s.app [0] o cs) ts->Res c m0 φ0 s0 (K m1) Q) :
  Res c m0 φ0 s0 (bp (apS e sz bytes (slV (φ [o,0]) (nOf s.X [0] o) sz) (.slice (some ⟨b2,0,some sz⟩) 1 1) m) fun x m=>bp (unt (Xd 1 (pt c.P o 0) x m)) fun _ m=>K m) Q:=by
 have e:pt c.P o 0=pt (φ [0]).b o (φ [0]).ver:=by rw [h.ps.pP]
 obtain ⟨l,a,b⟩:=h.ps.wt.root;rw [e];exact h.apk hcb a (r:=0) rfl (by omega) hf hs hc hnew hcs hb g
def okL:List Fd->List Cl->Prop
 | [],[]=>True
 | e :: fs,d :: ds=>okc (some e) d/\okL fs ds
 | _,_=>False
theorem X2t:∀ {t:List Fd} {l:List Cl},okL t l->∀ (i:Nat) (d:Cl),l[i]?=some d->okc (t[i]?) d
 | [],[],_,i,d,hd=>by simp at hd
 | g :: fs,e :: ds,h,0,d,hd=>by cases hd; exact h.1
 | g :: fs,e :: ds,h,i + 1,d,hd=>X2t h.2 i d hd
 | [],_ :: _,h,_,_,_=>False.elim h
 | _ :: _,[],h,_,_,_=>False.elim h
theorem X3i (h:PS c cap m φ s):(X17 c s.cu).1.length <= 65536:=X2w h
theorem Xps (h:PS c cap m φ s):(vrfC c s.cu).1.length <= 65536:=by
 unfold vrfC;split
 ·obtain ⟨m1,a1,a2,a3⟩:=X5n h [118,114,102] 0;exact X3i (s:={ s with cu:=(isC c s.cu [118,114,102]).2 }) a2
 ·simp
end Go.Ab.Sh
namespace Go.Ab
open Go Go.Lib
theorem Xzm (c g:Bool) (a n:Nat) (ha:a < 65536) (hn:n < 65536):bin .or c g .int (.int .u32 ((a * 65536:Nat):Int)) (.int .u32 (n:Int))=some (.int .u32 ((a * 65536 + n:Nat):Int)):=by
 rw [X1z];simp only [binO,ne_eq,not_true_eq_false,if_false];have e1:(BitVec.ofInt 32 ((a * 65536:Nat):Int) ||| BitVec.ofInt 32 (n:Int)).toNat=a * 65536 + n:=by
  rw [BitVec.ofInt_natCast,BitVec.ofInt_natCast,BitVec.toNat_or,BitVec.toNat_ofNat,BitVec.toNat_ofNat,Nat.mod_eq_of_lt (by omega),Nat.mod_eq_of_lt (by omega)];have h:=Nat.shiftLeft_add_eq_or_of_lt (i:=16) (b:=n) (by omega) a;rw [Nat.shiftLeft_eq] at h;exact h.symm
 have e2:(BitVec.ofInt IntKind.u32.bits ((a * 65536:Nat):Int) ||| BitVec.ofInt IntKind.u32.bits (n:Int)).toNat=a * 65536 + n:=e1;rw [e2,IntWalk.u32_in _ (by omega)]
theorem Xyl (c g:Bool) (a:Nat) (ha:a < 65536):bin .shl c g .int (.int .u32 (a:Int)) (.int .u64 16)=some (.int .u32 ((a * 65536:Nat):Int)):=by
 rw [X1z];show (if (16:Int) < 0 then none else some (Value.int .u32 (IntKind.u32.wrap ((a:Int) * 2 ^ (min (16:Int).toNat 32)))))=_;have e:((a:Int) * 2 ^ (min (16:Int).toNat 32))=((a * 65536:Nat):Int):=by
  rfl
 rw [if_neg (by omega),e,IntWalk.u32_in _ (by omega)]
theorem Xql (x y:Int):∃ z,(∃ w,bin .shl true true .int (.int .u32 x) (.int .u64 16)=some (.int .u32 w)/\bin .or false true .int (.int .u32 w) (.int .u32 y)=some (.int .u32 z)):=by
 obtain ⟨w,hw⟩:∃ w,bin .shl true true .int (.int .u32 x) (.int .u64 16)=some (.int .u32 w):=⟨IntKind.u32.wrap (x * 2 ^ (min (16:Int).toNat 32)),by
  rfl⟩
 obtain ⟨z,hz⟩:∃ z,bin .or false true .int (.int .u32 w) (.int .u32 y)=some (.int .u32 z):=⟨IntKind.u32.wrap ((BitVec.ofInt IntKind.u32.bits w ||| BitVec.ofInt IntKind.u32.bits y).toNat:Int),by
  rfl⟩
 exact ⟨z,w,hw,hz⟩
end Go.Ab
namespace Go.Ab.Sh
open Go Go.Ab Go.Lib
variable {L:Lc} {N b b2 bw by' bytes cap1 hi n o r sz ver:Nat} {S s1:PSt} {b4 b5 p:Bool} {cs pre vs yl zero:List Value} {i ty:Option Nat} {k:Key} {kw t2 t3 w:Str} {l:List Cl} {lo pr z0 z1:Int} {m1:Mem} {ts1:List Tmp} {ws:List Str} {y:Value} {φ1:Phi}
variable {c:Cx} {m0 m:Mem} {φ0 φ:Phi} {s0 s s':PSt} {cap δ:Nat} {ts:List Tmp} {x:Option Rs} {Q:Value->Nat->Phi->PSt->Prop} {v:Value} {cu:Cu}
theorem c_listsText (a:Nat) (ha:a < 4294967296) (d:Nat) (m:Mem):TA (d + 1) Qib [.int .u32 (a:Int)] m=some (sv (decDigits (a / 65536) ++ [58] ++ decDigits (a % 65536)),m):=by
 rw [Xi1];refine X16 (m1:=withLow m m.next) ?_ (.refl _ _) rfl;generalize withLow m m.next=m0;have h1:a / 65536 < 65536:=by omega
 have h2:a % 65536 < 65536:=Nat.mod_lt _ (by omega);have e1:bin .shr true true .int (.int .u32 (a:Int)) (.int .u64 16)=some (.int .u32 ((a / 65536:Nat):Int)):=Xjz _ _ a 16 ha (by omega);have e2:bin .and true true .int (.int .u32 (a:Int)) (.int .u32 65535)=some (.int .u32 ((a % 65536:Nat):Int)):=Xj0 true true a 16 ha (by omega);have w1:IntKind.i64.wrap ((a / 65536:Nat):Int)=((a / 65536:Nat):Int):=wrap64 _ (by omega);have w2:IntKind.i64.wrap ((a % 65536:Nat):Int)=((a % 65536:Nat):Int):=wrap64 _ (by omega);have c1:=c_ItoaN (a / 65536) (by omega) d m0;have c2:=c_ItoaN (a % 65536) (by omega) d m0;have l1:=X6c (a / 65536) (by omega);have l2:=X6c (a % 65536) (by omega);delta Qe5 F C B K E;simp only [e1,X3,c_int,w1,X4,c1,X1c,Q48 _ _ (decDigits (a / 65536)) [58] (by simp; omega),e2,w2,c2,Q48 _ _ (decDigits (a / 65536) ++ [58]) (decDigits (a % 65536)) (by simp; omega)]
theorem c_listsParse (s:Str) (hs:s.length <= 4194304) (d:Nat) (m:Mem):TA (d + 3) Qhn [sv s] m=some (.tuple ⟨[.int .u32 ((X3a s).getD 0:Nat),.int .i64 (if (X3a s).isSome=true then 0 else 4)]⟩,m):=by
 rw [Xfi];have hcl:=Xfe 58 s;have hcut:TA (d + 2) Q4w [sv s,sv [58]] (withLow m m.next)=_:=c_CutO s hs 58 d (withLow m m.next);obtain ⟨u1,e1,mP,r1,r2,r3⟩:=c_Pu 16 (.inl rfl) (cutO 58 s).1 (by omega) (d + 2) (withLow m m.next);obtain ⟨u2,e2,mQ,q1,q2,q3⟩:=c_Pu 16 (.inl rfl) (cutO 58 s).2.1 (by omega) (d + 2) mP;have r1:TA (d + 2) Q9 [sv (cutO 58 s).1,.int .i64 10,.int .i64 16] (withLow m m.next)=_:=r1;have q1:TA (d + 2) Q9 [sv (cutO 58 s).2.1,.int .i64 10,.int .i64 16] mP=_:=q1;have F:Fb m.next (withLow m m.next) mQ:=(Fr.toFb r2 (Nat.le_refl _)).trans (Fr.toFb q2 r2.next);refine X16 (m1:=mQ) ?_ F (by split <;> rfl);delta Qc3 Qij Qik Qil Qim F C B U A E;simp only [X1c,hcut,X4,ex0,ex1,ex2,X3,r1,q1,c_int];obtain ⟨z,w,z1,z2⟩:=Xql (IntKind.u32.wrap u1) (IntKind.u32.wrap u2);simp only [z1,z2,X3];delta Qin C D B qf;have bad:∀ p:Str->Option Nat,(p s).isSome=false->Q5h ⟨TA (d + 2),18446744073709551616⟩ (.bool true) (.int .u32 z) mQ=some (.tuple ⟨[.int .u32 ((p s).getD 0:Nat),.int .i64 (if (p s).isSome=true then 0 else 4)]⟩,mQ):=fun p hp=>by
  simp_all [Q5h,X7,hp,Q,K,A]
 rcases r3 with ⟨a,h1,rfl,rfl⟩ | ⟨h1,p,rfl⟩
 ·rcases q3 with ⟨b,k1,rfl,rfl⟩ | ⟨k1,p,rfl⟩
  ·have ha:=Xxq h1;have hb:=Xxq k1;have wa:IntKind.u32.wrap (a:Int)=a:=IntWalk.u32_in _ (by omega);have wb:IntKind.u32.wrap (b:Int)=b:=IntWalk.u32_in _ (by omega);rw [wa,Xyl true true a (by omega)] at z1;cases z1;rw [wb,Xzm false true a b (by omega) (by omega)] at z2;cases z2;have ct:=c_listsText (a * 65536 + b) (by omega) (d + 1) mQ;rw [show (a * 65536 + b) / 65536=a by omega,show (a * 65536 + b) % 65536=b by omega] at ct;simp only [nilI,X3,X6,ct,X4,Qmw];by_cases he:decDigits a ++ [58] ++ decDigits b=s
   ·have hc:X3a s=some (a * 65536 + b):=by
     unfold X3a;rw [h1,k1];exact if_pos he
    rw [hc,decide_eq_false (fun h=>h he)];delta Q5h Q K A;rw [X6];rfl
   ·have hc:X3a s=none:=by
     unfold X3a;rw [h1,k1];exact if_neg he
    rw [hc,decide_eq_true he];delta Q5h Q K A;rw [X7];rfl
  ·have hn:(X3a s).isSome=false:=by
    unfold X3a;rw [h1];cases h:parseUintB 16 (cutO 58 s).2.1 with
    | ok n=>exact absurd h (k1 n)
    | _=>rfl
   simp only [nilI,X3,X6,Xwi,X7];exact bad X3a hn
 ·have hn:(X3a s).isSome=false:=by
   unfold X3a;cases h:parseUintB 16 (cutO 58 s).1 with
   | ok n=>exact absurd h (h1 n)
   | _=>rfl
  simp only [Xwi,X3,X7];exact bad X3a hn
theorem W.fresh (h:W c m0 φ0 s0 cap m φ s ts) (hn:m1.next=m.next + 1) (hl:m1.low=m.low) (hg:∀ b,b < m.next->m1.get b=m.get b) (hb:m1.get m.next=some (.cells cs ver 0 false ty)):W c m0 φ0 s0 cap m1 φ s ((m.next,ver,cs) :: ts):=by
 have w2:Wk m φ (toX c s) m1 φ (toX c s):=⟨by omega,by omega,fun _ h _ _=>by omega,fun b hb _=>hg b hb,fun b hb=>.inr (hg b hb),fun k hk=>.inr ⟨k,hk,rfl⟩,.inr ⟨fun _ _=>rfl,fun _ h=>h⟩⟩
 have P2:=h.ps.step (h.ps.nr.same (by omega) fun k hk=>hg _ (h.ps.nr.hi k hk)) w2 ⟨rfl,rfl,rfl⟩ h.ps.ok;have H:=h.go P2 w2;exact {
  ps:=P2
  wk:=H.wk
  wb:=h.wb
  lt:=fun t ht=>by
   rcases List.mem_cons.mp ht with e | e
   ·subst e; exact ⟨h.wk.next,by omega⟩
   ·exact H.lt t e
  nx:=fun t ht k hk=>by
   rcases List.mem_cons.mp ht with e | e
   ·subst e; exact Nat.ne_of_lt (h.ps.nr.hi k hk)
   ·exact H.nx t e k hk
  at':=fun t ht=>by
   rcases List.mem_cons.mp ht with e | e
   ·grind
   ·exact H.at' t e
  nd:=by
   show (m.next :: ts.map (·.1)).Nodup;rw [List.nodup_cons];refine ⟨fun hm=>?_,h.nd⟩;obtain ⟨t,ht,e⟩:=List.mem_map.mp hm;have:=(h.lt t ht).2;omega }
theorem PS.callT (h:PS c cap m φ s) (hx:x=some (v,m1)) (k:W c (withLow m m.next) φ s cap1 m1 φ1 s1 ts) (hv:refs m.next 8 v=false):∃ m2,outOf m x=some (v,m2)/\W c m φ s cap1 m2 φ1 s1 ts:=by
 subst hx;have hc:(Nat.ble m.next m1.low && refs m.next 8 v)=false:=by grind
 have e:∀ v' m2,gc m v m1=(v',m2)->outOf m (some (v,m1))=some (v',m2):=fun v' m2 h=>by grind [outOf]
 have hw:=k.wk;refine ⟨Go.Ab.withLow m1 (min m.low m1.low),e _ _ (by simp [Xh2,gcO,hc]),{ k with
  ps:=k.ps.wl' _
  wk:={
   next:=hw.next
   low:=Nat.min_le_left _ _
   low2:=fun y a b c=>by
    have:=hw.low2 y b b c;show y <= min m.low m1.low;omega
   get:=hw.get
   lo:=fun b hb=>by
    rcases hw.lo b hb with q | q
    ·exact .inl (Nat.le_trans (Nat.min_le_right _ _) q)
    ·exact .inr q
   nw:=hw.nw
   kp:=by
    rcases hw.kp with ⟨k,a,b⟩ | q
    ·exact .inl ⟨k,a,Nat.le_trans (Nat.min_le_right _ _) b⟩
    ·grind }
  lt:=k.lt
  at':=k.at' }⟩
theorem W.join (h:W c m0 φ0 s0 cap m φ s ts) (k:W c m φ s cap1 m1 φ1 s1 ts1):W c m0 φ0 s0 cap1 m1 φ1 s1 (ts1 ++ ts):=by
 have H:=h.go k.ps k.wk;exact {
  ps:=k.ps
  wk:=H.wk
  wb:=h.wb
  lt:=fun t ht=>by
   rcases List.mem_append.mp ht with e | e
   ·exact ⟨Nat.le_trans h.wk.next (k.lt t e).1,(k.lt t e).2⟩
   ·exact H.lt t e
  nx:=fun t ht=>by
   rcases List.mem_append.mp ht with e | e
   ·exact k.nx t e
   ·exact H.nx t e
  at':=fun t ht=>by
   rcases List.mem_append.mp ht with e | e
   ·exact k.at' t e
   ·exact H.at' t e
  nd:=by
   rw [List.map_append,List.nodup_append];refine ⟨k.nd,h.nd,fun a ha b hb e=>?_⟩;obtain ⟨t,ht,rfl⟩:=List.mem_map.mp ha;obtain ⟨u,hu,rfl⟩:=List.mem_map.mp hb;have:=(k.lt t ht).1;have:=(h.lt u hu).2;omega }
theorem W.gapp {e:Nat} (h:W c m0 φ0 s0 cap m φ s ((b2,0,[y]) :: (if n=0 then [] else [(L.b,L.ver,vs)]) ++ ts)) (hL:n ≠ 0->L.r < 2) (hn:vs.length=n) (h1:one y=true) (hb:fits (n + 1) bytes=true) :
  ∃ m1 L',apS e 1 bytes (slV L n 1) (.slice (some ⟨b2,0,some 1⟩) 1 1) m=some (slV L' (n + 1) 1,m1)/\L'.r < 2/\m0.next <= L'.b/\W c m0 φ0 s0 cap m1 φ s ((L'.b,L'.ver,vs ++ [y]) :: ts):=by
 obtain ⟨ty2,hb2⟩:=h.at' (b2,0,[y]) (List.mem_cons_self ..);have hty:∃ ty,n ≠ 0->m.get L.b=some (.cells vs L.ver 0 false ty):=by
  by_cases hz:n=0
  ·simp_all
  ·rw [if_neg hz] at h;obtain ⟨ty,q⟩:=h.at' (L.b,L.ver,vs) (by simp);exact ⟨ty,fun _=>q⟩
 obtain ⟨ty,hgt⟩:=hty;obtain ⟨L',ty',m1,k1,k2,k3,k4,k5⟩:=Xfo (e:=e) (bytes:=bytes) (L:=L) (n:=n) (size:=1) (c:=vs) (new:=[y]) hgt hL (by omega) hb2 rfl (by simp [h1]) (Nat.le_refl _) hb;refine ⟨m1,L',k1,k3,?_⟩;have T:W c m0 φ0 s0 cap m φ s ((if n=0 then [] else [(L.b,L.ver,vs)]) ++ ts):=h.tl;rcases k5 with ⟨e1,e2,e3,e4⟩ | ⟨e1,e3,e4⟩
 ·rw [if_neg e2] at T;have T:W c m0 φ0 s0 cap m φ s ([] ++ (L.b,L.ver,vs) :: ts):=T;have hlt:=(T.lt (L.b,L.ver,vs) (by simp))
  have u:=T.upd (r':=L'.ver) (cs':=vs ++ [y]) (m1:=m1) (ty:=ty') e3 e4 (fun b' q hb'=>k4 b' q (by omega)) (by grind);rw [e1];exact ⟨hlt.1,u⟩
 ·have u:=T.fresh (ver:=L'.ver) (cs:=vs ++ [y]) (ty:=ty') e3 e4 (fun b hb=>k4 b hb (by omega)) (by grind);rw [e1];refine ⟨h.wk.next,u.sub (List.Sublist.cons_cons _ ?_)⟩;exact List.sublist_append_right _ _
theorem W.bslE (h:W c m0 φ0 s0 cap m φ s ts) {T:Nat} {parts:List (Nat × Value)} (hf:fill (fun i=>some (i * sz,sz)) (rep n zero) parts=some cs) (hs:sz ≠ 0) :
  ∃ b m1,X5 T zero sz n parts m=some (.slice (some ⟨b,0,some sz⟩) n 1,m1)/\W c m0 φ0 s0 cap m1 φ s ((b,0,cs) :: ts):=by
 refine ⟨_,_,?_,h.push cs (some (2 * T))⟩;rw [X2v];unfold X2h;rw [hf];exact if_neg hs
def cmL (L:Lc) (vals:List Nat):List Tmp:=if vals.length=0 then [] else [(L.b,L.ver,vals.map u32)]
def cmU (c:Cx) (cu:Cu):Cu:=if (X3a (Xf c cu).1).isSome=true then (Xf c cu).2 else badC c (Xf c cu).2 130
theorem X4c (c:Cx) (f:Nat) (cu:Cu):X1y c (f + 1) cu=if X27 c (cmU c cu)=true then ((X3a (Xf c cu).1).getD 0 :: (X1y c f (cmU c cu)).1,(X1y c f (cmU c cu)).2) else ([(X3a (Xf c cu).1).getD 0],cmU c cu):=rfl
theorem Xgx (cu:Cu) (col:Nat) (e:Int):(X3b cu col e).er.isNone=false:=by
 unfold X3b;cases he:cu.er.isNone with
 | true=>rfl
 | false=>simpa using he
theorem Xpd {c:Cx} {cu:Cu} (h:cu.er.isNone=false):X27 c cu=false:=by unfold X27; rw [h]; rfl
theorem Xr4 {c:Cx} {cu cu':Cu} (hc:cu'=(Xf c cu).2\/∃ e,cu'=badC c (Xf c cu).2 e) (h:X27 c cu'=true):X27 c cu=true/\cu'.pl=cu.pl + 1:=by
 rcases hc with rfl | ⟨e,rfl⟩
 ·unfold Xf at h ⊢;cases hm:X27 c cu with
  | false =>
   rw [hm] at h;rw [if_neg (by decide),Xpd (Xgx _ _ _)] at h;cases h
  | true=>exact ⟨rfl,rfl⟩
 ·have:(badC c (Xf c cu).2 e).er.isNone=false:=Xgx _ _ _;rw [Xpd this] at h;cases h
theorem Xrx {c:Cx} {cu:Cu} (h:X27 c (cmU c cu)=true):X27 c cu=true/\(cmU c cu).pl=cu.pl + 1:=by
 refine Xr4 ?_ h;unfold cmU;split
 ·simp
 ·grind
theorem Xrt {c:Cx} {cu:Cu} (h:X27 c (Xb c cu lo hi).2=true):X27 c cu=true/\(Xb c cu lo hi).2.pl=cu.pl + 1:=by
 refine Xr4 ?_ h;unfold Xb;by_cases g:Xmu (Xf c cu).1=true
 ·rw [if_pos g];by_cases g2:(num hi (Xf c cu).1).isSome=true/\lo <= (numV (num hi (Xf c cu).1):Int)
  ·exact .inl (if_pos g2)
  ·grind
 ·grind
theorem Xel (d:Nat):∀ (f F:Nat) (cu:Cu) (vals:List Nat) (L:Lc) (m:Mem),c.ws.length - cu.pl < f->c.ws.length - cu.pl + 1 < F->vals.length + (c.ws.length - cu.pl) <= 8589934592->(vals.length ≠ 0->L.r < 2)->W c m0 φ0 s0 cap m φ (s.at cu) (cmL L vals) ->
  ∃ m' L',Q1e ⟨TA (d + 3),18446744073709551616⟩ F (.bool true) (pt c.C 0 0) (slV L vals.length 1) m=some (slV L' (vals ++ (X1y c f cu).1).length 1,m')/\W c m0 φ0 s0 cap m' φ (s.at (X1y c f cu).2) [(L'.b,L'.ver,(vals ++ (X1y c f cu).1).map u32)]/\L'.r < 2/\m0.next <= L'.b
 | f + 1,F + 1,cu,vals,L,m,h1,h2,h3,h4,k=>by
  have hl:(Xf c cu).1.length <= 65536:=X2w k.ps;obtain ⟨m1,a1,a2,a3⟩:=X2x k.ps (d + 1);have k1:W c m0 φ0 s0 cap m1 φ (s.at (Xf c cu).2) (cmL L vals):=k.go a2 a3;have a1:TA (d + 3) Qe [pt c.C 0 0] m=some (sv (Xf c cu).1,m1):=a1;have cp:=c_listsParse (Xf c cu).1 (Nat.le_trans hl (by decide)) d m1;have step:∀ m2,W c m0 φ0 s0 cap m2 φ (s.at (cmU c cu)) (cmL L vals)->∃ m' L',Q63 ⟨TA (d + 3),18446744073709551616⟩ (Q1e ⟨TA (d + 3),18446744073709551616⟩ F) (slV L vals.length 1) (.int .u32 ((X3a (Xf c cu).1).getD 0:Nat)) (pt c.C 0 0) m2=some (slV L' (vals ++ (X1y c (f + 1) cu).1).length 1,m')/\W c m0 φ0 s0 cap m' φ (s.at (X1y c (f + 1) cu).2) [(L'.b,L'.ver,(vals ++ (X1y c (f + 1) cu).1).map u32)]/\L'.r < 2/\m0.next <= L'.b:=fun m2 k2=>by
   delta Q63 C qp;obtain ⟨b,m3,e3,k3⟩:=k2.bslE (T:=Qn4) (n:=1) (sz:=1) (zero:=[.int .u32 0]) (parts:=[(0,.int .u32 ((X3a (Xf c cu).1).getD 0:Nat))]) (cs:=[u32 ((X3a (Xf c cu).1).getD 0)]) rfl (by decide);have k3:W c m0 φ0 s0 cap m3 φ (s.at (cmU c cu)) ((b,0,[u32 ((X3a (Xf c cu).1).getD 0)]) :: (if vals.length=0 then [] else [(L.b,L.ver,vals.map u32)]) ++ []):=by rw [List.append_nil]; exact k3
   obtain ⟨m4,L',e4,hr,hb,k4⟩:=k3.gapp (e:=Qn4) (bytes:=4) h4 (by simp) rfl (Xas (by omega) (by decide));have hm:=c_more k4.ps (d + 2);have hm:TA (d + 3) Q1k [pt c.C 0 0] m4=some (.bool (X27 c (cmU c cu)),m4):=hm;rw [X4c];simp only [e3,X4,e4,hm];have k4:W c m0 φ0 s0 cap m4 φ (s.at (cmU c cu)) [(L'.b,L'.ver,(vals ++ [(X3a (Xf c cu).1).getD 0]).map u32)]:=by grind
   have hv:(vals ++ [(X3a (Xf c cu).1).getD 0]).length=vals.length + 1:=by simp
   cases hmo:X27 c (cmU c cu) with
   | true =>
    obtain ⟨g1,g2⟩:=Xrx hmo;have g3:=X93 (s:=s.at cu) g1;have g3:cu.pl < c.ws.length:=g3;have ih:=Xel d f F (cmU c cu) (vals ++ [(X3a (Xf c cu).1).getD 0]) L' m4 (by omega) (by omega) (by omega) (fun _=>hr) (by simp_all [cmL,if_neg,k4]);rw [hv,List.append_assoc] at ih;rw [if_pos rfl];exact ih
   | false =>
    rw [if_neg (by decide)];obtain ⟨F,rfl⟩:∃ j,F=j + 1:=⟨F - 1,by omega⟩
    refine ⟨m4,L',?_,k4,hr,hb⟩;unfold Q1e;delta Q;rw [X6];delta Qcm K;rw [hv]
  unfold Q1e;delta Q;rw [X7];delta Qco C U;simp only [a1,X4,cp,ex0,ex1,X3];delta Qcn C D A;simp only [Q9y,X3];unfold cmU at step;cases hs:(X3a (Xf c cu).1).isSome with
  | true =>
   rw [hs] at step;simp only [if_true,ne_eq,not_true_eq_false,decide_false,X6] at step ⊢;exact step m1 k1
  | false =>
   rw [hs] at step;simp only [Bool.false_eq_true,if_false,ne_eq] at step ⊢;rw [show decide (¬ (4:Int)=0)=true from rfl,X7];obtain ⟨m2,b1,b2,b3⟩:=X3t k1.ps 130 (by decide) (d + 1);have b1:TA (d + 3) Q5 [pt c.C 0 0,.int .i64 130] m1=some (.tuple ⟨[]⟩,m2):=b1;rw [b1,X4];exact step m2 (k1.go b2 b3)
theorem Xdj (c:Cx) (f:Nat) (cu:Cu):(X1y c (f + 1) cu).1.length ≠ 0:=by
 grind [X4c]
theorem Xao (c:Cx):∀ (f:Nat) (cu:Cu),(X1y c f cu).1.length <= f
 | 0,cu=>Nat.le_refl 0
 | f + 1,cu=>by
  rw [X4c];have:=Xao c f (cmU c cu);split
  ·grind
  ·simp
theorem Xkx {k:Nat} (h:n ≠ 0) (hb:k <= L.b):refs k 8 (slV L n sz)=false:=by
 unfold slV;rw [if_neg h];show Nat.blt L.b k=false;cases hh:Nat.blt L.b k with
 | false=>rfl
 | true=>have:=Nat.blt_eq.mp hh; omega
theorem Xl5 (h:PS c cap m φ s) (d:Nat):∃ L m',TA (d + 4) Q3i [pt c.C 0 0] m=some (slV L (X1y c (c.ws.length + 1) s.cu).1.length 1,m')/\W c m φ s cap m' φ (s.at (X1y c (c.ws.length + 1) s.cu).2) [(L.b,L.ver,(X1y c (c.ws.length + 1) s.cu).1.map u32)]/\L.r < 2:=by
 rw [X7x];have k:W c (withLow m m.next) φ s cap (withLow m m.next) φ (s.at s.cu) (cmL ⟨0,0,0⟩ []):=W.start (h.wl' m.next);have hle:=h.wl.len;obtain ⟨m1,L,e1,k1,k2,k3⟩:=Xel d (c.ws.length + 1) 18446744073709551616 s.cu [] ⟨0,0,0⟩ (withLow m m.next) (by omega) (by omega) (by grind) (fun q=>absurd rfl q) k;rw [List.nil_append] at e1 k1;have e2:Q3j ⟨TA (d + 3),18446744073709551616⟩ (pt c.C 0 0) (withLow m m.next)=some (slV L (X1y c (c.ws.length + 1) s.cu).1.length 1,m1):=by
  delta Q3j Qcr Qcq Qcp qf;exact e1
 obtain ⟨m2,q1,q2⟩:=h.callT e2 k1 (Xkx (Xdj _ _ _) k3);exact ⟨L,m2,q1,q2,k2⟩
variable {c:Cx} {m0 m:Mem} {φ0 φ:Phi} {s0 s s':PSt} {cap δ:Nat} {ts:List Tmp} {x:Option Rs} {Q:Value->Nat->Phi->PSt->Prop} {v:Value} {cu:Cu}
theorem Xm2 {α:Type} (A:List α) (x y:α):(A ++ [x]).set A.length y=A ++ [y]:=by simp
theorem Xzk (hr:kt k=some r) (hf:fdAt r o=some (.l 11)):k ≠ [9,0]:=fun e=>by
 subst e;cases hr;unfold fdAt at hf;have:o % rowL 12=0\/o % rowL 12=1\/o % rowL 12=2:=by
  have:=Nat.mod_lt o (Xf8 12);have e:rowL 12=3:=rfl;omega
 rcases this with e | e | e <;> rw [e] at hf <;> cases hf
theorem W.apo (h:W c m0 φ0 s0 cap m φ s ((b2,0,pre ++ [slV L n 1]) :: (L.b,L.ver,vs) :: ts)) (hLr:L.r < 2) (hn:vs.length=n) (hn0:n ≠ 0) (hvs:∀ v ∈ vs,∃ z,v=.int .u32 z) (hcb:cap <= 8589934592) {r' e:Nat} (hk:s.X k=some (.c l)) (hr:kt k=some r) (h0:k ≠ [0]) (ho:o < l.length) (hf:fdAt r o=some (.l r')) (hs:rowL r'=sz) (hc:pre.length + 1=sz) (hpre:pre.all one=true) (hcs:∀ (i:Nat) (d:Cl),(pre.map Cl.v ++ [Cl.s 0 1])[i]?=some d->okc ((rowT r')[i]?) d) (hla:(rowT r')[pre.length]?=some (.l 11)) (hb:bytes <= 256) {K:Mem->Option Rs} {K2:Value->Mem->Option Rs} (hK:∀ v' m1,(∀ a,toX c s a ≠ none->a ≠ o :: k->m1.get (φ a).b=m.get (φ a).b)->K2 v' m1=bp (unt (Xd 1 (pt (φ k).b o (φ k).ver) v' m1)) fun _ m=>K m) (g:∀ cap1 m1 φ1,cap1 <= cap + 1 + n->W c m0 φ0 s0 cap1 m1 φ1 (s.adopt k o (pre.map .v) vs) ts->Res c m0 φ0 s0 (K m1) Q) :
  Res c m0 φ0 s0 (bp (apS e sz bytes (slV (φ (o :: k)) (nOf s.X k o) sz) (.slice (some ⟨b2,0,some sz⟩) 1 1) m) K2) Q:=by
 subst hs;obtain ⟨q1,q2,_,_,_⟩:=h.ps.list hk hr ho hf;have hk1:=(X1l hr).1;have hr2:=X2d hr hf;have hko1:o :: k ≠ [1]:=(X1l hr2).1;have hko0:o :: k ≠ [0]:=fun e=>by injection e with e1 e2; exact X3f hr e2
 obtain ⟨_,hol,hoe⟩:=Xq5 h.ps hk hr hf q1;have a:toX c s k=some (.c l):=by rw [X6e hk1 h0]; exact hk
 obtain ⟨lr,hroot,hroot2⟩:=h.ps.wt.root;obtain ⟨ty2,hb2⟩:=h.at' (b2,0,pre ++ [slV L n 1]) (List.mem_cons_self ..);have hsn:slV L n 1=.slice (some ⟨L.b,0,some 1⟩) n (2 * L.ver + L.r):=if_neg hn0;generalize hN:nOf s.X k o=N at *;let cs:List Cl:=(pre ++ [slV L n 1]).map .v;have hraw:cs.map Cl.raw=pre ++ [slV L n 1]:=by
  show (List.map Cl.v _).map Cl.raw=_;rw [List.map_map];exact List.map_id _
 have hcl:cs.length=rowL r':=by grind
 have hnew:cs.all Cl.new=true:=by
  rw [List.all_eq_true];intro d hd;obtain ⟨y,hy,rfl⟩:=List.mem_map.mp hd;rcases List.mem_append.mp hy with e | e
  ·exact List.all_eq_true.mp hpre y e
  ·rw [List.mem_singleton.mp e]; exact X76 _ _ _
 obtain ⟨v',m1,m2,φ',p1,p2,p3,p4,p5,_,p6,p7⟩:=h.ps.nr.app (e:=e) (bytes:=bytes) (cs:=cs) a q1 (by rw [hraw]; exact hb2) hcl hnew (Xas (Nat.le_trans q2 hcb) hb);rw [hoe] at p3 p4;have p1:apS e (rowL r') bytes (slV (φ (o :: k)) N (rowL r')) (.slice (some ⟨b2,0,some (rowL r')⟩) 1 1) m=some (v',m1):=p1;rw [p1,X4,hK _ _ p7,p2,Xo];generalize hold:X25 s.X (o :: k)=old at *;have hx2:((toX c s).set (o :: k) (some (.c (old ++ cs)))).set k (some (.c (l.set o (.s (N + 1) (rowL r'))))) (o :: k)=some (.c (old ++ cs)):=by
  simp [NX.set_ne,X3c,NX.set_eq]
 have hpos:old.length + pre.length=(old ++ pre.map Cl.v).length:=by simp
 have hcs2:old ++ cs=(old ++ pre.map Cl.v) ++ [.v (slV L n 1)]:=by grind
 have hget:(old ++ cs)[old.length + pre.length]?=some (.v (slV L n 1)):=by
  grind
 obtain ⟨tyL,hgL⟩:=h.at' (L.b,L.ver,vs) (by simp);have hlt:=h.lt (L.b,L.ver,vs) (by simp);have hnx:=h.nx (L.b,L.ver,vs) (by simp);have hgL2:m2.get L.b=some (.cells vs L.ver 0 false tyL):=by rw [p4.get _ hlt.2 hnx]; exact hgL
 have hnone:((toX c s).set (o :: k) (some (.c (old ++ cs)))).set k (some (.c (l.set o (.s (N + 1) (rowL r'))))) ((old.length + pre.length) :: o :: k)=none:=by
  rw [NX.set_ne _ _ (Xiz _ o k),NX.set_ne _ _ (X3c _ _)];cases hxx:toX c s ((old.length + pre.length) :: o :: k) with
  | none=>rfl
  | some ob =>
   obtain ⟨l5,n5,sz5,z1,z2,z3⟩:=h.ps.nr.par (old.length + pre.length) o k (by grind);have:X25 (toX c s) (o :: k)=l5:=by unfold X25; rw [z1]
   rw [hoe] at this;subst this;rw [List.getElem?_eq_none (by omega)] at z2;cases z2
 have hone:vs.all one=true:=by
  rw [List.all_eq_true];intro y hy;obtain ⟨z,rfl⟩:=hvs y hy;rfl
 have o1:=p3.own (o:=old.length + pre.length) (n:=n) (sz:=1) (L:=L) (vs:=vs) (ty:=tyL) hx2 hget hn0 (by omega) hnone (fun k' hk'=>by
  rcases p4.nw k' hk' with q | ⟨k0,w1,w2⟩
  ·have:=hlt.2;show (φ' k').b ≠ L.b;have:L.b < m.next:=hlt.2;omega
  ·rw [<- w2]; exact hnx k0 w1) (Nat.lt_of_lt_of_le hlt.2 p4.next) hLr hgL2 (by omega) hone
 have W2:=h.wk.trans p4;have hkp:=h.wk.low_of (k:=k) (lo:=m2.low) (by rw [a]; simp) p6 p4.low;have hX3:(((((toX c s).set (o :: k) (some (.c (old ++ cs)))).set k (some (.c (l.set o (.s (N + 1) (rowL r')))))).set ((old.length + pre.length) :: o :: k) (some (.c (vs.map .v)))).set (o :: k) (some (.c ((old ++ cs).set (old.length + pre.length) (.s n 1)))))=toX c (s.adopt k o (pre.map .v) vs):=by
  have e1:(s.adopt k o (pre.map .v) vs)={ s with X:=((((s.X.set (o :: k) (some (.c (old ++ (pre.map Cl.v ++ [.s 0 1]))))).set k (some (.c (l.set o (.s (N + 1) (rowL r')))))).set ((old.length + pre.length) :: o :: k) (some (.c (vs.map .v)))).set (o :: k) (some (.c ((old ++ cs).set (old.length + pre.length) (.s n 1))))) }:=by
   unfold PSt.adopt PSt.adp PSt.app;simp only;have ea:=Xbf hk q1 (pre.map Cl.v ++ [.s 0 1]) (by simp; omega);rw [hold] at ea;have ea2:apF s.X k o (pre.map Cl.v ++ [.s 0 1]) (o :: k)=some (.c (old ++ (pre.map Cl.v ++ [.s 0 1]))):=by rw [ea,NX.set_ne _ _ (X3c o k),NX.set_eq]
   rw [Xhc ea2,ea,hN];have ep:N * ((pre.map Cl.v).length + 1) + (pre.map Cl.v).length=old.length + pre.length:=by rw [List.length_map,hol,hc]
   rw [ep,hn];have el:(old ++ (pre.map Cl.v ++ [Cl.s 0 1])).set (old.length + pre.length) (Cl.s n 1)=(old ++ cs).set (old.length + pre.length) (Cl.s n 1):=by
    rw [hcs2,<- List.append_assoc,hpos,Xm2,Xm2]
   rw [el]
  rw [e1];have r0:=hroot;have r1:s.X.set (o :: k) (some (.c (old ++ (pre.map Cl.v ++ [.s 0 1])))) [0]=some (.c lr):=by rw [NX.set_ne _ _ (Ne.symm hko0)]; exact r0
  have r2:(s.X.set (o :: k) (some (.c (old ++ (pre.map Cl.v ++ [.s 0 1]))))).set k (some (.c (l.set o (.s (N + 1) (rowL r'))))) [0]=some (.c lr):=by rw [NX.set_ne _ _ (Ne.symm h0)]; exact r1
  have hp0:(old.length + pre.length) :: o :: k ≠ [0]:=fun e=>by injection e with e1 e2; cases e2
  have hp1:(old.length + pre.length) :: o :: k ≠ [1]:=fun e=>by injection e with e1 e2; cases e2
  have r3:((s.X.set (o :: k) (some (.c (old ++ (pre.map Cl.v ++ [.s 0 1]))))).set k (some (.c (l.set o (.s (N + 1) (rowL r')))))).set ((old.length + pre.length) :: o :: k) (some (.c (vs.map .v))) [0]=some (.c lr):=by rw [NX.set_ne _ _ (Ne.symm hp0)]; exact r2
  have t1:=Xa3 (c:=c) (s:=s) (a:=o :: k) (some (.c (old ++ (pre.map Cl.v ++ [.s 0 1])))) r0 hko1 hko0;have t2:=Xa3 (c:=c) (s:={ s with X:=s.X.set (o :: k) (some (.c (old ++ (pre.map Cl.v ++ [.s 0 1])))) }) (a:=k) (some (.c (l.set o (.s (N + 1) (rowL r'))))) r1 hk1 h0;have t3:=Xa3 (c:=c) (s:={ s with X:=(s.X.set (o :: k) (some (.c (old ++ (pre.map Cl.v ++ [.s 0 1]))))).set k (some (.c (l.set o (.s (N + 1) (rowL r'))))) }) (a:=(old.length + pre.length) :: o :: k) (some (.c (vs.map .v))) r2 hp1 hp0;have t4:=Xa3 (c:=c) (s:={ s with X:=((s.X.set (o :: k) (some (.c (old ++ (pre.map Cl.v ++ [.s 0 1]))))).set k (some (.c (l.set o (.s (N + 1) (rowL r')))))).set ((old.length + pre.length) :: o :: k) (some (.c (vs.map .v))) }) (a:=o :: k) (some (.c ((old ++ cs).set (old.length + pre.length) (.s n 1)))) r3 hko1 hko0;rw [<- t4,<- t3,<- t2,<- t1];funext q;unfold NX.set;by_cases hq:q=o :: k
  ·simp [hq]
  ·simp [hq]
 have ok3:SOk c (s.adopt k o (pre.map .v) vs):=by
  have ea:=Xbf hk q1 (pre.map Cl.v ++ [.s 0 1]) (by simp; omega);rw [hold] at ea;have ea2:apF s.X k o (pre.map Cl.v ++ [.s 0 1]) (o :: k)=some (.c (old ++ (pre.map Cl.v ++ [.s 0 1]))):=by rw [ea,NX.set_ne _ _ (X3c o k),NX.set_eq]
  have ep:N * ((pre.map Cl.v).length + 1) + (pre.map Cl.v).length=old.length + pre.length:=by rw [List.length_map,hol,hc]
  have w1:=h.ps.wt.ap hk hr hf q1 (by rw [hold]; exact hol) (cs:=pre.map Cl.v ++ [.s 0 1]) (by simp; omega) hcs;have w2:=w1.adp (o:=old.length + pre.length) (n:=0) (vs:=vs) ea2 hr2 (by rw [hol,fd_row rfl N pre.length (by omega)]; exact hla) (by rw [<- List.append_assoc,hpos,List.getElem?_append_right (Nat.le_refl _),Nat.sub_self]; rfl) hvs;refine ⟨h.ps.ok.le,h.ps.ok.ee,?_,h.ps.ok.il,?_⟩
  ·show WT (adF (apF s.X k o (pre.map Cl.v ++ [.s 0 1])) (o :: k) (nOf s.X k o * ((pre.map Cl.v).length + 1) + (pre.map Cl.v).length) vs);rw [hN,ep];exact w2
  ·show Ge c.X0 (adF (apF s.X k o (pre.map Cl.v ++ [.s 0 1])) (o :: k) (nOf s.X k o * ((pre.map Cl.v).length + 1) + (pre.map Cl.v).length) vs);refine h.ps.ok.ge.to fun k' o' hk'=>?_;rw [Xos ea2 _ _ k' o' (by
    rcases hk' with e | e <;> subst e
    ·exact Ne.symm hko0
    ·intro e2; injection e2 with e3 e4; exact h0 e4.symm) (by
    rcases hk' with e | e <;> subst e
    ·intro e2; injection e2 with e3 e4; cases e4
    ·intro e2; injection e2 with e3 e4; injection e4 with e5 e6; exact X3f hr e6.symm)]
   exact Xoo hk q1 _ (by simp; omega) k' o'
 have hX2d:∀ k',toX c (s.adopt k o (pre.map .v) vs) k' ≠ none->k'=(old.length + pre.length) :: o :: k\/((toX c s).set (o :: k) (some (.c (old ++ cs)))).set k (some (.c (l.set o (.s (N + 1) (rowL r'))))) k' ≠ none:=fun k' hk'=>by
  rw [<- hX3] at hk';by_cases e1:k'=(old.length + pre.length) :: o :: k
  ·exact .inl e1
  ·refine .inr fun e2=>hk' ?_;by_cases e3:k'=o :: k
   ·subst e3; rw [hx2] at e2; cases e2
   ·rw [NX.set_ne _ _ e3,NX.set_ne _ _ e1]; exact e2
 have WF:=W2.own (q:=(old.length + pre.length) :: o :: k) (L:=L) (X':=toX c (s.adopt k o (pre.map .v) vs)) hlt.1 hkp hX2d;rw [hX3] at o1;have hφp:∀ q,q ≠ (old.length + pre.length) :: o :: k->(φ'.set ((old.length + pre.length) :: o :: k) L) q=φ' q:=fun q hq=>Phi.set_ne _ _ hq;have f0:([0]:Key) ≠ (old.length + pre.length) :: o :: k:=fun e=>by injection e with e1 e2; cases e2
 have f1:([1]:Key) ≠ (old.length + pre.length) :: o :: k:=fun e=>by injection e with e1 e2; cases e2
 have f2:([2]:Key) ≠ (old.length + pre.length) :: o :: k:=fun e=>by injection e with e1 e2; cases e2
 have g0:([0]:Key) ≠ o :: k:=Ne.symm hko0;have g1:([1]:Key) ≠ o :: k:=Ne.symm hko1;have g2:([2]:Key) ≠ o :: k:=fun e=>by injection e with e1 e2; exact X3f hr e2.symm
 have away:∀ b,b < m.next->b ≠ L.b->(∀ k0,toX c s k0 ≠ none->(φ k0).b ≠ b)->∀ k',toX c (s.adopt k o (pre.map .v) vs) k' ≠ none->((φ'.set ((old.length + pre.length) :: o :: k) L) k').b ≠ b:=fun b hb hbL hbk k' hk'=>by
  by_cases e1:k'=(old.length + pre.length) :: o :: k
  ·rw [e1,Phi.set_eq]; exact Ne.symm hbL
  ·rw [hφp _ e1];rcases hX2d k' hk' with e2 | e2
   ·exact absurd e2 e1
   ·rcases p4.nw k' e2 with q | ⟨k0,w1,w2⟩
    ·omega
    ·rw [<- w2]; exact hbk k0 w1
 have hwL:c.wb ≠ L.b:=by have:=h.wb; have:=hlt.1; omega
 have PF:PS c (max (max cap (N + 1)) n) m2 (φ'.set ((old.length + pre.length) :: o :: k) L) (s.adopt k o (pre.map .v) vs):={
  nr:=o1
  wl:=h.ps.wl.wk h.ps.nb p4
  nb:=away c.wb h.ps.wl.lt hwL h.ps.nb
  pC:=by rw [hφp _ f1,p5 _ g1]; exact h.ps.pC
  pP:=by rw [hφp _ f0,p5 _ g0]; exact h.ps.pP
  pO:=by rw [hφp _ f2,p5 _ g2]; exact h.ps.pO
  ok:=ok3 }
 have hnd:L.b ∉ ts.map (·.1):=by
  have:=h.nd;rw [List.map_cons,List.map_cons,List.nodup_cons,List.nodup_cons] at this;exact this.2.1
 refine g _ m2 _ (by omega) {
  ps:=PF
  wk:=WF
  wb:=h.wb
  lt:=fun t ht=>by
   have:=h.lt t (by simp [ht]);have:=p4.next;omega
  nx:=fun t ht=>away t.1 (h.lt t (by simp [ht])).2 (fun e=>hnd (by rw [<- e]; exact List.mem_map_of_mem ht)) (h.nx t (by simp [ht]))
  at':=fun t ht=>by
   obtain ⟨ty,q⟩:=h.at' t (by simp [ht]);exact ⟨ty,by rw [p4.get _ (h.lt t (by simp [ht])).2 (h.nx t (by simp [ht]))]; exact q⟩
  nd:=h.tl.tl.nd }
theorem W.ads (h:W c m0 φ0 s0 cap m φ s ((L.b,L.ver,vs) :: ts)) (hLr:L.r < 2) (hn:vs.length=n) (hn0:n ≠ 0) (hvs:∀ v ∈ vs,∃ z,v=.int .u32 z) (hk:s.X k=some (.c l)) (hr:kt k=some r) (h0:k ≠ [0]) (ho:o < l.length) (hf:fdAt r o=some (.l 11)) {K:Mem->Option Rs} (g:∀ m1 φ1,(∀ k',k' ≠ o :: k->φ1 k'=φ k')->W c m0 φ0 s0 (max cap n) m1 φ1 (s.adp k o vs) ts->Res c m0 φ0 s0 (K m1) Q) :
  Res c m0 φ0 s0 (bp (unt (Xd 1 (pt (φ k).b o (φ k).ver) (slV L n 1) m)) fun _ m=>K m) Q:=by
 obtain ⟨q1,q2,_,_,_⟩:=h.ps.list hk hr ho hf;have hk1:=(X1l hr).1;have hr2:=X2d hr hf;have hko1:o :: k ≠ [1]:=(X1l hr2).1;have hko0:o :: k ≠ [0]:=fun e=>by injection e with e1 e2; exact X3f hr e2
 have a:toX c s k=some (.c l):=by rw [X6e hk1 h0]; exact hk
 obtain ⟨lr,hroot,hroot2⟩:=h.ps.wt.root;generalize hN:nOf s.X k o=N at *;have q1:l[o]?=some (.s N 1):=q1;have hsn:slV L n 1=.slice (some ⟨L.b,0,some 1⟩) n (2 * L.ver + L.r):=if_neg hn0;have hxc:(slV L n 1).cells=#[slV L n 1]:=by rw [hsn]; rfl
 have hsub:∀ i,toX c s (i :: o :: k)=none:=fun i=>by
  cases hxx:toX c s (i :: o :: k) with
  | none=>rfl
  | some ob =>
   obtain ⟨l5,n5,sz5,z1,z2,z3⟩:=h.ps.nr.par i o k (by grind);rw [X6e hko1 hko0] at z1;obtain ⟨r5,y1,y2⟩:=h.ps.wt.ty _ _ z1;rw [hr2] at y1;cases y1;have:=y2 i _ z2;rw [Xu2] at this;exact False.elim this
 have d1:=h.ps.nr.disown a q1 hsub;generalize hX1:((toX c s).set (o :: k) none).set k (some (.c (l.set o (.v (slV (φ (o :: k)) N 1)))))=X1 at d1;have hX1k:X1 k=some (.c (l.set o (.v (slV (φ (o :: k)) N 1)))):=by rw [<- hX1,NX.set_eq]
 have hX1d:∀ k',X1 k' ≠ none->toX c s k' ≠ none:=fun k' hk'=>by
  rw [<- hX1] at hk';by_cases e:k'=k
  ·grind
  ·rw [NX.set_ne _ _ e] at hk';by_cases e2:k'=o :: k
   ·simp_all [e2,NX.set_eq,hk']
   ·rwa [NX.set_ne _ _ e2] at hk'
 obtain ⟨m',u1,u2,u3,u4,u5⟩:=d1.put (o:=o) (n:=1) (x:=slV L n 1) hX1k (by rw [hxc]; rfl) (by rw [hxc]; simp [X76]) (by grind) (fun i h1 h2=>by
  have:i=o:=by omega
  subst this;exact ⟨_,by rw [List.getElem?_set,if_pos rfl,if_pos ho]⟩)
 rw [u1,Xo];have hl2:(l.set o (.v (slV (φ (o :: k)) N 1))).take o ++ (slV L n 1).cells.toList.map Cl.v ++ (l.set o (.v (slV (φ (o :: k)) N 1))).drop (o + 1)=l.set o (.v (slV L n 1)):=by
  rw [hxc];apply List.ext_getElem?;intro i;have g1:=get_put (l:=l.set o (.v (slV (φ (o :: k)) N 1))) (z:=[Cl.v (slV L n 1)]) (o:=o) (by rw [List.length_set]; exact ho) i;refine Eq.trans g1 ?_;rw [List.getElem?_set,List.getElem?_set];by_cases p:o <= i/\i < o + [Cl.v (slV L n 1)].length
  ·have:o=i:=by grind
   subst this;rw [if_pos p,if_pos rfl,if_pos ho,Nat.sub_self]; rfl
  ·have:o ≠ i:=fun e=>p (by subst e; simp);rw [if_neg p,if_neg this,if_neg this]
 rw [hl2] at u2 u3;have hX2k:X1.set k (some (.c (l.set o (.v (slV L n 1))))) k=some (.c (l.set o (.v (slV L n 1)))):=NX.set_eq _ _ _;have hX2d:∀ k',X1.set k (some (.c (l.set o (.v (slV L n 1))))) k' ≠ none->toX c s k' ≠ none:=fun k' hk'=>by
  by_cases e:k'=k
  ·rw [e,a]; simp
  ·rw [NX.set_ne _ _ e] at hk'; exact hX1d k' hk'
 obtain ⟨tyL,hgL⟩:=h.at' (L.b,L.ver,vs) (by simp);have hlt:=h.lt (L.b,L.ver,vs) (by simp);have hnx:=h.nx (L.b,L.ver,vs) (by simp);have S3:=u3.sub hX1d;have hgL2:m'.get L.b=some (.cells vs L.ver 0 false tyL):=by rw [S3.get _ hlt.2 hnx]; exact hgL
 have hone:vs.all one=true:=by
  rw [List.all_eq_true];intro y hy;obtain ⟨z,rfl⟩:=hvs y hy;rfl
 have hnone:X1.set k (some (.c (l.set o (.v (slV L n 1))))) (o :: k)=none:=by
  rw [NX.set_ne _ _ (X3c o k),<- hX1,NX.set_ne _ _ (X3c o k),NX.set_eq]
 have o1:=u2.own (o:=o) (n:=n) (sz:=1) (L:=L) (vs:=vs) (ty:=tyL) hX2k (by grind) hn0 (by omega) hnone (fun k' hk'=>hnx k' (hX2d k' hk')) (by omega) hLr hgL2 (by omega) hone;have W2:=h.wk.trans S3;have hkp:=h.wk.low_of (k:=k) (lo:=m'.low) (by rw [a]; simp) u5 S3.low;have ea:=Xhc hk o vs;have hX3:((X1.set k (some (.c (l.set o (.v (slV L n 1)))))).set (o :: k) (some (.c (vs.map .v)))).set k (some (.c ((l.set o (.v (slV L n 1))).set o (.s n 1))))=toX c (s.adp k o vs):=by
  have r1:s.X.set (o :: k) (some (.c (vs.map Cl.v))) [0]=some (.c lr):=by rw [NX.set_ne _ _ (Ne.symm hko0)]; exact hroot
  have t1:=Xa3 (c:=c) (s:=s) (a:=o :: k) (some (.c (vs.map Cl.v))) hroot hko1 hko0;have t2:=Xa3 (c:=c) (s:={ s with X:=s.X.set (o :: k) (some (.c (vs.map Cl.v))) }) (a:=k) (some (.c (l.set o (.s vs.length 1)))) r1 hk1 h0;have e1:s.adp k o vs={ s with X:=(s.X.set (o :: k) (some (.c (vs.map Cl.v)))).set k (some (.c (l.set o (.s vs.length 1)))) }:=by unfold PSt.adp; rw [ea]
  rw [e1,<- t2,<- t1,List.set_set,hn,<- hX1];funext q;unfold NX.set;by_cases hq:q=k
  ·simp [hq]
  ·by_cases hq2:q=o :: k
   ·simp [hq,hq2]
   ·simp [hq,hq2]
 rw [hX3] at o1;have hdd:∀ k',toX c (s.adp k o vs) k' ≠ none->k'=o :: k\/X1.set k (some (.c (l.set o (.v (slV L n 1))))) k' ≠ none:=fun k' hk'=>by
  by_cases e1:k'=o :: k
  ·exact .inl e1
  ·refine .inr fun e2=>hk' ?_;by_cases e3:k'=k
   ·rw [e3,hX2k] at e2; cases e2
   ·rw [<- hX3,NX.set_ne _ _ e3,NX.set_ne _ _ e1]; exact e2
 have WF:=W2.own (q:=o :: k) (L:=L) (X':=toX c (s.adp k o vs)) hlt.1 hkp hdd;have hφp:∀ q,q ≠ o :: k->(φ.set (o :: k) L) q=φ q:=fun q hq=>Phi.set_ne _ _ hq;have away:∀ b,b < m.next->b ≠ L.b->(∀ k0,toX c s k0 ≠ none->(φ k0).b ≠ b)->∀ k',toX c (s.adp k o vs) k' ≠ none->((φ.set (o :: k) L) k').b ≠ b:=fun b hb hbL hbk k' hk'=>by
  by_cases e1:k'=o :: k
  ·rw [e1,Phi.set_eq]; exact Ne.symm hbL
  ·rw [hφp _ e1];rcases hdd k' hk' with e2 | e2
   ·exact absurd e2 e1
   ·grind
 have ok3:SOk c (s.adp k o vs):=by
  refine ⟨h.ps.ok.le,h.ps.ok.ee,h.ps.wt.adp hk hr hf q1 hvs,h.ps.ok.il,h.ps.ok.ge.to fun k' o' hk'=>?_⟩;show nOf s.X k' o' <= nOf (adF s.X k o vs) k' o';rw [Xos hk _ _ k' o' (by
   rcases hk' with e | e <;> subst e
   ·exact Ne.symm h0
   ·exact Ne.symm (Xzk hr hf)) (by
   rcases hk' with e | e <;> subst e
   ·exact Ne.symm hko0
   ·intro e2; injection e2 with e3 e4; exact h0 e4.symm)]
  exact Nat.le_refl _
 have g0:([0]:Key) ≠ o :: k:=Ne.symm hko0;have g1:([1]:Key) ≠ o :: k:=Ne.symm hko1;have g2:([2]:Key) ≠ o :: k:=fun e=>by injection e with e1 e2; exact X3f hr e2.symm
 have hnd:L.b ∉ ts.map (·.1):=by
  have:=h.nd;rw [List.map_cons,List.nodup_cons] at this;exact this.1
 have hwL:c.wb ≠ L.b:=by have:=h.wb; have:=hlt.1; omega
 refine g m' _ hφp {
  ps:={
   nr:=o1
   wl:=h.ps.wl.wk h.ps.nb S3
   nb:=away c.wb h.ps.wl.lt hwL h.ps.nb
   pC:=by rw [hφp _ g1]; exact h.ps.pC
   pP:=by rw [hφp _ g0]; exact h.ps.pP
   pO:=by rw [hφp _ g2]; exact h.ps.pO
   ok:=ok3 }
  wk:=WF
  wb:=h.wb
  lt:=fun t ht=>by
   have:=h.lt t (by simp [ht]);have:=S3.next;omega
  nx:=fun t ht=>away t.1 (h.lt t (by simp [ht])).2 (fun e=>hnd (by rw [<- e]; exact List.mem_map_of_mem ht)) (h.nx t (by simp [ht]))
  at':=fun t ht=>by
   obtain ⟨ty,q⟩:=h.at' t (by simp [ht]);exact ⟨ty,by rw [S3.get _ (h.lt t (by simp [ht])).2 (h.nx t (by simp [ht]))]; exact q⟩
  nd:=h.tl.nd }
variable {c:Cx} {m0 m:Mem} {φ0 φ:Phi} {s0 s s':PSt} {cap δ:Nat} {ts:List Tmp} {x:Option Rs} {Q:Value->Nat->Phi->PSt->Prop} {v:Value} {cu:Cu}
theorem row_end {i:Nat} (h:i < N):i * sz + sz <= N * sz:=by
 have:=Nat.mul_le_mul_right sz (show i + 1 <= N from h);rwa [Nat.add_mul,Nat.one_mul] at this
theorem row_cons (hy:cs[o]?=some y) (hs:0 < sz):∃ t,(cs.drop o).take sz=y :: t:=by
 obtain ⟨sz,rfl⟩:∃ j,sz=j + 1:=⟨sz - 1,by omega⟩
 obtain ⟨h1,h2⟩:=List.getElem?_eq_some_iff.mp hy;rw [List.drop_eq_getElem_cons h1,h2];exact ⟨_,rfl⟩
theorem PS.blk (h:PS c cap m φ s) (hk:s.X k=some (.c l)) (h1:k ≠ [1]) (h0:k ≠ [0]):∃ ty,m.get (φ k).b=some (.cells (cells φ k l) (φ k).ver 0 false ty):=h.nr.at' k (.c l) (by rw [X6e h1 h0]; exact hk)
theorem PS.headS (h:PS c cap m φ s) (hk:s.X k=some (.c l)) (hr:kt k=some r) (hs:rowL r=sz) (hl:l.length=N * sz) (hf:(rowT r)[0]?=some .s) (i:Nat) (hi:i < N):(cells φ k l)[i * sz]?=some (sv (sOf s.X k (i * sz + 0))):=by
 have hp:0 < sz:=by rw [<- hs]; exact Xf8 r
 have he:=row_end (sz:=sz) hi;obtain ⟨d,d1,d2⟩:=h.wt.get hk hr (o:=i * sz + 0) (by omega);rw [fd_row hs i 0 hp,hf] at d2;cases d with
 | s n z=>exact False.elim d2
 | v y =>
  obtain ⟨t,rfl,ht⟩:=d2;have e:sOf s.X k (i * sz + 0)=t:=by unfold sOf vOf; rw [X6i hk,d1]; rfl
  rw [e,Xm];rw [Nat.add_zero] at d1;rw [d1];rfl
theorem PS.headI (h:PS c cap m φ s) (hk:s.X k=some (.c l)) (hr:kt k=some r) (hs:rowL r=sz) (hl:l.length=N * sz) (hf:(rowT r)[0]?=some (.i .u32)) (i:Nat) (hi:i < N):(cells φ k l)[i * sz]?=some (.int .u32 (iOf s.X k (i * sz + 0))):=by
 have hp:0 < sz:=by rw [<- hs]; exact Xf8 r
 have he:=row_end (sz:=sz) hi;obtain ⟨d,d1,d2⟩:=h.wt.get hk hr (o:=i * sz + 0) (by omega);rw [fd_row hs i 0 hp,hf] at d2;cases d with
 | s n z=>exact False.elim d2
 | v y =>
  obtain ⟨t,rfl⟩:=d2;have e:iOf s.X k (i * sz + 0)=t:=by unfold iOf vOf; rw [X6i hk,d1]; rfl
  rw [e,Xm];rw [Nat.add_zero] at d1;rw [d1];rfl
theorem c_clP (a v:Str) (cs:List Value) {m:Mem} (hb:b < m.next) (hg:∃ ty,m.get b=some (.cells [sv v] 0 0 false ty)) (d:Nat):TA (d + 1) Q2o [.agg ⟨sv a :: cs⟩,pt b 0 0] m=some (.bool (decide (a=v)),m):=by
 rw [X8d];obtain ⟨ty,hg⟩:=hg;refine X16 (m1:=(withLow m m.next).push (.cells (sv a :: cs) 0 0 false (some (2 * Q6e + 1)))) ?_ (Fb.push _ (Nat.le_refl _)) rfl;have l0:=X3q (m:=withLow m m.next) (cs:=sv a :: cs) (ty:=some (2 * Q6e + 1)) (o:=0 + 0) rfl;have l1:X8 false 1 (pt b 0 0) ((withLow m m.next).push (.cells (sv a :: cs) 0 0 false (some (2 * Q6e + 1))))=some (sv v):=X12 (by rw [Mem.get_push,if_neg (by show m.next ≠ b; omega)]; exact hg) rfl;have hcs:(Value.cells (.agg ⟨sv a :: cs⟩)).toList=sv a :: cs:=rfl;delta Q5m H P B K S;rw [hcs,Xp];simp only [X4,X9,X3,l0,l1,Qw]
theorem Xm6 (L:Lc) (hr:L.r < 2) (N:Nat) (hN:N <= 8589934592) (q:Nat->Str) (v:Str) {b:Nat} {m:Mem} (hb:b < m.next) (hg:∃ ty,m.get b=some (.cells [sv v] 0 0 false ty)) (cs:List Value) (hc:∃ ty,m.get L.b=some (.cells cs L.ver 0 false ty)) (hl:cs.length=N * 2) (hh:∀ i,i < N->cs[i * 2]?=some (sv (q (i * 2 + 0)))) (d:Nat) :
  ∀ n i f,i + n=N->n < f->Qa ⟨TA (d + 1),18446744073709551616⟩ f (I i) (I N) (.func (.func Q2o) ⟨[]⟩ ⟨[pt b 0 0]⟩) (slV L N 2) m=some (idxV (Xay (fun j=>decide (q j=v)) 2 0 n i),m)
 | 0,i,f + 1,e,hf=>by
  have:i=N:=by omega
  subst this;unfold Qa;delta F Q D qc B K Y X A qh;simp only [Q1d,X3,Int.lt_irrefl,decide_false,X6];delta Q15 K A;rfl
 | n + 1,i,f + 1,e,hf=>by
  have hi:i < N:=by omega
  have hlt:decide (((i:Nat):Int) < ((N:Nat):Int))=true:=decide_eq_true (by omega);have hend:=row_end (sz:=2) hi;obtain ⟨ty,hc'⟩:=hc;obtain ⟨t,ht⟩:=row_cons (sz:=2) (hh i hi) (by omega);have e1:=X3e L hr N 2 i .i64 hi;have e2:X8 true 2 (pt L.b (i * 2) L.ver) m=some (.agg ⟨sv (q (i * 2 + 0)) :: t⟩):=Xv hc' (by omega) ht;have e3:X52 (TA (d + 1)) (.func (.func Q2o) ⟨[]⟩ ⟨[pt b 0 0]⟩) [.agg ⟨sv (q (i * 2 + 0)) :: t⟩] m=some (.bool (decide (q (i * 2 + 0)=v)),m):=c_clP (q (i * 2 + 0)) v t hb hg d;unfold Qa;delta F Q D qc B K Y X A qh;simp only [Q1d,X3,hlt,X7,e1,e2,e3,X4];unfold Xay;by_cases hw:q (i * 2 + 0)=v
  ·rw [decide_eq_true hw,X7,if_pos rfl];rfl
  ·rw [decide_eq_false hw,X6,if_neg (by decide)];have e4:bin .add true true .int (I i) (.int .i64 1)=some (I (i + 1:Nat)):=by
    rw [Q35];have:((i:Nat):Int) + 1=((i + 1:Nat):Int):=by omega
    rw [this,wrap64 _ (by omega)]
   simp only [e4,X3];exact Xm6 L hr N hN q v hb hg cs ⟨ty,hc'⟩ hl hh d n (i + 1) f (by omega) (by omega)
theorem c_ixP (h:PS c cap m φ s) (hcap:cap <= 8589934592) (hk:s.X k=some (.c l)) (hr:kt k=some r) (ho:o < l.length) (hf:fdAt r o=some (.l 7)) (v:Str) (hb:b < m.next) (hg:∃ ty,m.get b=some (.cells [sv v] 0 0 false ty)) (d:Nat) :
  TA (d + 2) Qt [slV (φ (o :: k)) (nOf s.X k o) 2,.func (.func Q2o) ⟨[]⟩ ⟨[pt b 0 0]⟩] m=some (idxV (X6y s.X k o 2 0 v),m):=by
 obtain ⟨_,q2,_,q4,q5⟩:=h.list hk hr ho hf;have hr2:=X2d hr hf;have hk1:=(X1l hr2).1;have hk0:o :: k ≠ [0]:=fun e=>by injection e with e1 e2; exact X3f hr e2
 rw [X1x];refine X1t (m1:=withLow m m.next) ?_ (Fr.refl _ _) (by unfold idxV; split <;> rfl);delta Qk Q1t Q1s N A;simp only [X2y,X3];have hg':∃ ty,(withLow m m.next).get b=some (.cells [sv v] 0 0 false ty):=hg;have hb':b < (withLow m m.next).next:=hb;unfold X6y;by_cases hz:nOf s.X k o=0
 ·rw [hz];unfold Qa;delta F Q D qc B K Y X A qh;simp only [Q1d,X3,Int.lt_irrefl,decide_false,X6];delta Q15 K A;rfl
 ·obtain ⟨l',a1,a2,a3⟩:=q5 hz;obtain ⟨ty,hc⟩:=h.blk a1 hk1 hk0;have hc':∃ ty,(withLow m m.next).get (φ (o :: k)).b=some (.cells (cells φ (o :: k) l') (φ (o :: k)).ver 0 false ty):=⟨ty,hc⟩
  exact Xm6 (φ (o :: k)) a3 (nOf s.X k o) (Nat.le_trans q2 hcap) (sOf s.X (o :: k)) v hb' hg' (cells φ (o :: k) l') hc' (by rw [X10]; exact a2) (fun i hi=>h.headS a1 hr2 rfl a2 rfl i hi) d (nOf s.X k o) 0 18446744073709551616 (by omega) (by omega)
theorem c_clC (a v:Str) (cs:List Value) {m:Mem} (hb:b < m.next) (hg:∃ ty,m.get b=some (.cells [sv v] 0 0 false ty)) (d:Nat):TA (d + 1) Q2p [.agg ⟨sv a :: cs⟩,pt b 0 0] m=some (.bool (decide (a=v)),m):=by
 rw [X8m];obtain ⟨ty,hg⟩:=hg;refine X16 (m1:=(withLow m m.next).push (.cells (sv a :: cs) 0 0 false (some (2 * Q3z + 1)))) ?_ (Fb.push _ (Nat.le_refl _)) rfl;have l0:=X3q (m:=withLow m m.next) (cs:=sv a :: cs) (ty:=some (2 * Q3z + 1)) (o:=0 + 0) rfl;have l1:X8 false 1 (pt b 0 0) ((withLow m m.next).push (.cells (sv a :: cs) 0 0 false (some (2 * Q3z + 1))))=some (sv v):=X12 (by rw [Mem.get_push,if_neg (by show m.next ≠ b; omega)]; exact hg) rfl;have hcs:(Value.cells (.agg ⟨sv a :: cs⟩)).toList=sv a :: cs:=rfl;delta Q5n H P B K S;rw [hcs,Xp];simp only [X4,X9,X3,l0,l1,Qw]
theorem Xlx (L:Lc) (hr:L.r < 2) (N:Nat) (hN:N <= 8589934592) (q:Nat->Str) (v:Str) {b:Nat} {m:Mem} (hb:b < m.next) (hg:∃ ty,m.get b=some (.cells [sv v] 0 0 false ty)) (cs:List Value) (hc:∃ ty,m.get L.b=some (.cells cs L.ver 0 false ty)) (hl:cs.length=N * 2) (hh:∀ i,i < N->cs[i * 2]?=some (sv (q (i * 2 + 0)))) (d:Nat) :
  ∀ n i f,i + n=N->n < f->Q6 ⟨TA (d + 1),18446744073709551616⟩ f (I i) (I N) (.func (.func Q2p) ⟨[]⟩ ⟨[pt b 0 0]⟩) (slV L N 2) m=some (idxV (Xay (fun j=>decide (q j=v)) 2 0 n i),m)
 | 0,i,f + 1,e,hf=>by
  have:i=N:=by omega
  subst this;unfold Q6;delta F Q D qc B K Y X A qh;simp only [Q1d,X3,Int.lt_irrefl,decide_false,X6];delta Qx K A;rfl
 | n + 1,i,f + 1,e,hf=>by
  have hi:i < N:=by omega
  have hlt:decide (((i:Nat):Int) < ((N:Nat):Int))=true:=decide_eq_true (by omega);have hend:=row_end (sz:=2) hi;obtain ⟨ty,hc'⟩:=hc;obtain ⟨t,ht⟩:=row_cons (sz:=2) (hh i hi) (by omega);have e1:=X3e L hr N 2 i .i64 hi;have e2:X8 true 2 (pt L.b (i * 2) L.ver) m=some (.agg ⟨sv (q (i * 2 + 0)) :: t⟩):=Xv hc' (by omega) ht;have e3:X52 (TA (d + 1)) (.func (.func Q2p) ⟨[]⟩ ⟨[pt b 0 0]⟩) [.agg ⟨sv (q (i * 2 + 0)) :: t⟩] m=some (.bool (decide (q (i * 2 + 0)=v)),m):=c_clC (q (i * 2 + 0)) v t hb hg d;unfold Q6;delta F Q D qc B K Y X A qh;simp only [Q1d,X3,hlt,X7,e1,e2,e3,X4];unfold Xay;by_cases hw:q (i * 2 + 0)=v
  ·rw [decide_eq_true hw,X7,if_pos rfl];rfl
  ·rw [decide_eq_false hw,X6,if_neg (by decide)];have e4:bin .add true true .int (I i) (.int .i64 1)=some (I (i + 1:Nat)):=by
    rw [Q35];have:((i:Nat):Int) + 1=((i + 1:Nat):Int):=by omega
    rw [this,wrap64 _ (by omega)]
   simp only [e4,X3];exact Xlx L hr N hN q v hb hg cs ⟨ty,hc'⟩ hl hh d n (i + 1) f (by omega) (by omega)
theorem c_ixC (h:PS c cap m φ s) (hcap:cap <= 8589934592) (hk:s.X k=some (.c l)) (hr:kt k=some r) (ho:o < l.length) (hf:fdAt r o=some (.l 9)) (v:Str) (hb:b < m.next) (hg:∃ ty,m.get b=some (.cells [sv v] 0 0 false ty)) (d:Nat) :
  TA (d + 2) Qn [slV (φ (o :: k)) (nOf s.X k o) 2,.func (.func Q2p) ⟨[]⟩ ⟨[pt b 0 0]⟩] m=some (idxV (X6y s.X k o 2 0 v),m):=by
 obtain ⟨_,q2,_,q4,q5⟩:=h.list hk hr ho hf;have hr2:=X2d hr hf;have hk1:=(X1l hr2).1;have hk0:o :: k ≠ [0]:=fun e=>by injection e with e1 e2; exact X3f hr e2
 rw [X1h];refine X1t (m1:=withLow m m.next) ?_ (Fr.refl _ _) (by unfold idxV; split <;> rfl);delta Qb Q1h Q1g N A;simp only [X2y,X3];have hg':∃ ty,(withLow m m.next).get b=some (.cells [sv v] 0 0 false ty):=hg;have hb':b < (withLow m m.next).next:=hb;unfold X6y;by_cases hz:nOf s.X k o=0
 ·rw [hz];unfold Q6;delta F Q D qc B K Y X A qh;simp only [Q1d,X3,Int.lt_irrefl,decide_false,X6];delta Qx K A;rfl
 ·obtain ⟨l',a1,a2,a3⟩:=q5 hz;obtain ⟨ty,hc⟩:=h.blk a1 hk1 hk0;have hc':∃ ty,(withLow m m.next).get (φ (o :: k)).b=some (.cells (cells φ (o :: k) l') (φ (o :: k)).ver 0 false ty):=⟨ty,hc⟩
  exact Xlx (φ (o :: k)) a3 (nOf s.X k o) (Nat.le_trans q2 hcap) (sOf s.X (o :: k)) v hb' hg' (cells φ (o :: k) l') hc' (by rw [X10]; exact a2) (fun i hi=>h.headS a1 hr2 rfl a2 rfl i hi) d (nOf s.X k o) 0 18446744073709551616 (by omega) (by omega)
theorem c_clR (a v:Str) (cs:List Value) {m:Mem} (hb:b < m.next) (hg:∃ ty,m.get b=some (.cells [sv v] 0 0 false ty)) (d:Nat):TA (d + 1) Q1x [.agg ⟨sv a :: cs⟩,pt b 0 0] m=some (.bool (decide (a=v)),m):=by
 rw [X5q];obtain ⟨ty,hg⟩:=hg;refine X16 (m1:=(withLow m m.next).push (.cells (sv a :: cs) 0 0 false (some (2 * Q5y + 1)))) ?_ (Fb.push _ (Nat.le_refl _)) rfl;have l0:=X3q (m:=withLow m m.next) (cs:=sv a :: cs) (ty:=some (2 * Q5y + 1)) (o:=0 + 0) rfl;have l1:X8 false 1 (pt b 0 0) ((withLow m m.next).push (.cells (sv a :: cs) 0 0 false (some (2 * Q5y + 1))))=some (sv v):=X12 (by rw [Mem.get_push,if_neg (by show m.next ≠ b; omega)]; exact hg) rfl;have hcs:(Value.cells (.agg ⟨sv a :: cs⟩)).toList=sv a :: cs:=rfl;delta Q3d H P B K S;rw [hcs,Xp];simp only [X4,X9,X3,l0,l1,Qw]
theorem Xlp (L:Lc) (hr:L.r < 2) (N:Nat) (hN:N <= 8589934592) (q:Nat->Str) (v:Str) {b:Nat} {m:Mem} (hb:b < m.next) (hg:∃ ty,m.get b=some (.cells [sv v] 0 0 false ty)) (cs:List Value) (hc:∃ ty,m.get L.b=some (.cells cs L.ver 0 false ty)) (hl:cs.length=N * 3) (hh:∀ i,i < N->cs[i * 3]?=some (sv (q (i * 3 + 0)))) (d:Nat) :
  ∀ n i f,i + n=N->n < f->Qh ⟨TA (d + 1),18446744073709551616⟩ f (I i) (I N) (.func (.func Q1x) ⟨[]⟩ ⟨[pt b 0 0]⟩) (slV L N 3) m=some (idxV (Xay (fun j=>decide (q j=v)) 3 0 n i),m)
 | 0,i,f + 1,e,hf=>by
  have:i=N:=by omega
  subst this;unfold Qh;delta F Q D qc B K Y X A qh;simp only [Q1d,X3,Int.lt_irrefl,decide_false,X6];delta Q1l K A;rfl
 | n + 1,i,f + 1,e,hf=>by
  have hi:i < N:=by omega
  have hlt:decide (((i:Nat):Int) < ((N:Nat):Int))=true:=decide_eq_true (by omega);have hend:=row_end (sz:=3) hi;obtain ⟨ty,hc'⟩:=hc;obtain ⟨t,ht⟩:=row_cons (sz:=3) (hh i hi) (by omega);have e1:=X3e L hr N 3 i .i64 hi;have e2:X8 true 3 (pt L.b (i * 3) L.ver) m=some (.agg ⟨sv (q (i * 3 + 0)) :: t⟩):=Xv hc' (by omega) ht;have e3:X52 (TA (d + 1)) (.func (.func Q1x) ⟨[]⟩ ⟨[pt b 0 0]⟩) [.agg ⟨sv (q (i * 3 + 0)) :: t⟩] m=some (.bool (decide (q (i * 3 + 0)=v)),m):=c_clR (q (i * 3 + 0)) v t hb hg d;unfold Qh;delta F Q D qc B K Y X A qh;simp only [Q1d,X3,hlt,X7,e1,e2,e3,X4];unfold Xay;by_cases hw:q (i * 3 + 0)=v
  ·rw [decide_eq_true hw,X7,if_pos rfl];rfl
  ·rw [decide_eq_false hw,X6,if_neg (by decide)];have e4:bin .add true true .int (I i) (.int .i64 1)=some (I (i + 1:Nat)):=by
    rw [Q35];have:((i:Nat):Int) + 1=((i + 1:Nat):Int):=by omega
    rw [this,wrap64 _ (by omega)]
   simp only [e4,X3];exact Xlp L hr N hN q v hb hg cs ⟨ty,hc'⟩ hl hh d n (i + 1) f (by omega) (by omega)
theorem c_ixR (h:PS c cap m φ s) (hcap:cap <= 8589934592) (hk:s.X k=some (.c l)) (hr:kt k=some r) (ho:o < l.length) (hf:fdAt r o=some (.l 12)) (v:Str) (hb:b < m.next) (hg:∃ ty,m.get b=some (.cells [sv v] 0 0 false ty)) (d:Nat) :
  TA (d + 2) Q1c [slV (φ (o :: k)) (nOf s.X k o) 3,.func (.func Q1x) ⟨[]⟩ ⟨[pt b 0 0]⟩] m=some (idxV (X6y s.X k o 3 0 v),m):=by
 obtain ⟨_,q2,_,q4,q5⟩:=h.list hk hr ho hf;have hr2:=X2d hr hf;have hk1:=(X1l hr2).1;have hk0:o :: k ≠ [0]:=fun e=>by injection e with e1 e2; exact X3f hr e2
 rw [X22];refine X1t (m1:=withLow m m.next) ?_ (Fr.refl _ _) (by unfold idxV; split <;> rfl);delta Qu Q2h Q2g N A;simp only [X2y,X3];have hg':∃ ty,(withLow m m.next).get b=some (.cells [sv v] 0 0 false ty):=hg;have hb':b < (withLow m m.next).next:=hb;unfold X6y;by_cases hz:nOf s.X k o=0
 ·rw [hz];unfold Qh;delta F Q D qc B K Y X A qh;simp only [Q1d,X3,Int.lt_irrefl,decide_false,X6];delta Q1l K A;rfl
 ·obtain ⟨l',a1,a2,a3⟩:=q5 hz;obtain ⟨ty,hc⟩:=h.blk a1 hk1 hk0;have hc':∃ ty,(withLow m m.next).get (φ (o :: k)).b=some (.cells (cells φ (o :: k) l') (φ (o :: k)).ver 0 false ty):=⟨ty,hc⟩
  exact Xlp (φ (o :: k)) a3 (nOf s.X k o) (Nat.le_trans q2 hcap) (sOf s.X (o :: k)) v hb' hg' (cells φ (o :: k) l') hc' (by rw [X10]; exact a2) (fun i hi=>h.headS a1 hr2 rfl a2 rfl i hi) d (nOf s.X k o) 0 18446744073709551616 (by omega) (by omega)
theorem c_clE (a v:Int) (cs:List Value) {m:Mem} (hb:b < m.next) (hg:∃ ty,m.get b=some (.cells [.int .u32 v] 0 0 false ty)) (d:Nat):TA (d + 1) Q1m [.agg ⟨.int .u32 a :: cs⟩,pt b 0 0] m=some (.bool (decide (a=v)),m):=by
 rw [X50];obtain ⟨ty,hg⟩:=hg;refine X16 (m1:=(withLow m m.next).push (.cells (.int .u32 a :: cs) 0 0 false (some (2 * Qc9 + 1)))) ?_ (Fb.push _ (Nat.le_refl _)) rfl;have l0:=X3q (m:=withLow m m.next) (cs:=.int .u32 a :: cs) (ty:=some (2 * Qc9 + 1)) (o:=0 + 0) rfl;have l1:X8 false 1 (pt b 0 0) ((withLow m m.next).push (.cells (.int .u32 a :: cs) 0 0 false (some (2 * Qc9 + 1))))=some (.int .u32 v):=X12 (by rw [Mem.get_push,if_neg (by show m.next ≠ b; omega)]; exact hg) rfl;have hcs:(Value.cells (.agg ⟨.int .u32 a :: cs⟩)).toList=.int .u32 a :: cs:=rfl;delta Q2k H P B K S;rw [hcs,Xp];simp only [X4,X9,X3,l0,l1,Q79]
theorem Xki (L:Lc) (hr:L.r < 2) (N:Nat) (hN:N <= 8589934592) (q:Nat->Int) (v:Int) {b:Nat} {m:Mem} (hb:b < m.next) (hg:∃ ty,m.get b=some (.cells [.int .u32 v] 0 0 false ty)) (cs:List Value) (hc:∃ ty,m.get L.b=some (.cells cs L.ver 0 false ty)) (hl:cs.length=N * 6) (hh:∀ i,i < N->cs[i * 6]?=some (.int .u32 (q (i * 6 + 0)))) (d:Nat) :
  ∀ n i f,i + n=N->n < f->Qo ⟨TA (d + 1),18446744073709551616⟩ f (I i) (I N) (.func (.func Q1m) ⟨[]⟩ ⟨[pt b 0 0]⟩) (slV L N 6) m=some (idxV (Xay (fun j=>decide (q j=v)) 6 0 n i),m)
 | 0,i,f + 1,e,hf=>by
  have:i=N:=by omega
  subst this;unfold Qo;delta F Q D qc B K Y X A qh;simp only [Q1d,X3,Int.lt_irrefl,decide_false,X6];delta Q1y K A;rfl
 | n + 1,i,f + 1,e,hf=>by
  have hi:i < N:=by omega
  have hlt:decide (((i:Nat):Int) < ((N:Nat):Int))=true:=decide_eq_true (by omega);have hend:=row_end (sz:=6) hi;obtain ⟨ty,hc'⟩:=hc;obtain ⟨t,ht⟩:=row_cons (sz:=6) (hh i hi) (by omega);have e1:=X3e L hr N 6 i .i64 hi;have e2:X8 true 6 (pt L.b (i * 6) L.ver) m=some (.agg ⟨.int .u32 (q (i * 6 + 0)) :: t⟩):=Xv hc' (by omega) ht;have e3:X52 (TA (d + 1)) (.func (.func Q1m) ⟨[]⟩ ⟨[pt b 0 0]⟩) [.agg ⟨.int .u32 (q (i * 6 + 0)) :: t⟩] m=some (.bool (decide (q (i * 6 + 0)=v)),m):=c_clE (q (i * 6 + 0)) v t hb hg d;unfold Qo;delta F Q D qc B K Y X A qh;simp only [Q1d,X3,hlt,X7,e1,e2,e3,X4];unfold Xay;by_cases hw:q (i * 6 + 0)=v
  ·rw [decide_eq_true hw,X7,if_pos rfl];rfl
  ·rw [decide_eq_false hw,X6,if_neg (by decide)];have e4:bin .add true true .int (I i) (.int .i64 1)=some (I (i + 1:Nat)):=by
    rw [Q35];have:((i:Nat):Int) + 1=((i + 1:Nat):Int):=by omega
    rw [this,wrap64 _ (by omega)]
   simp only [e4,X3];exact Xki L hr N hN q v hb hg cs ⟨ty,hc'⟩ hl hh d n (i + 1) f (by omega) (by omega)
theorem c_ixE (h:PS c cap m φ s) (hcap:cap <= 8589934592) (hk:s.X k=some (.c l)) (hr:kt k=some r) (ho:o < l.length) (hf:fdAt r o=some (.l 18)) (v:Int) (hb:b < m.next) (hg:∃ ty,m.get b=some (.cells [.int .u32 v] 0 0 false ty)) (d:Nat) :
  TA (d + 2) Q1i [slV (φ (o :: k)) (nOf s.X k o) 6,.func (.func Q1m) ⟨[]⟩ ⟨[pt b 0 0]⟩] m=some (idxV (Xfz s.X k o 6 0 v),m):=by
 obtain ⟨_,q2,_,q4,q5⟩:=h.list hk hr ho hf;have hr2:=X2d hr hf;have hk1:=(X1l hr2).1;have hk0:o :: k ≠ [0]:=fun e=>by injection e with e1 e2; exact X3f hr e2
 rw [X2j];refine X1t (m1:=withLow m m.next) ?_ (Fr.refl _ _) (by unfold idxV; split <;> rfl);delta Q13 Q36 Q37 N A;simp only [X2y,X3];have hg':∃ ty,(withLow m m.next).get b=some (.cells [.int .u32 v] 0 0 false ty):=hg;have hb':b < (withLow m m.next).next:=hb;unfold Xfz;by_cases hz:nOf s.X k o=0
 ·rw [hz];unfold Qo;delta F Q D qc B K Y X A qh;simp only [Q1d,X3,Int.lt_irrefl,decide_false,X6];delta Q1y K A;rfl
 ·obtain ⟨l',a1,a2,a3⟩:=q5 hz;obtain ⟨ty,hc⟩:=h.blk a1 hk1 hk0;have hc':∃ ty,(withLow m m.next).get (φ (o :: k)).b=some (.cells (cells φ (o :: k) l') (φ (o :: k)).ver 0 false ty):=⟨ty,hc⟩
  exact Xki (φ (o :: k)) a3 (nOf s.X k o) (Nat.le_trans q2 hcap) (iOf s.X (o :: k)) v hb' hg' (cells φ (o :: k) l') hc' (by rw [X10]; exact a2) (fun i hi=>h.headI a1 hr2 rfl a2 rfl i hi) d (nOf s.X k o) 0 18446744073709551616 (by omega) (by omega)
variable {c:Cx} {m0 m:Mem} {φ0 φ:Phi} {s0 s s':PSt} {cap δ:Nat} {ts:List Tmp} {x:Option Rs} {Q:Value->Nat->Phi->PSt->Prop} {v:Value} {cu:Cu}
abbrev dd (d:Nat):Gt:=⟨TA (d + 8),18446744073709551616⟩
theorem kt3:kt [3,0]=some 2:=rfl
theorem W.ins1 (h:W c m0 φ s cap m φ s' ts) (hw:w.length <= 65536) (d:Nat) (hS:Xz s' [w]=S) :
  Res c m0 φ s (bp (X5 Q4 [.string ⟨#[]⟩] 1 1 [(0,sv w)] m) fun y m=>bp (TA (d + 2) Q7 [pt c.P 0 0,y] m) fun _ m=>some (.tuple ⟨[]⟩,m)) (Q_s cap φ (.tuple ⟨[]⟩) S):=by
 subst hS;refine h.bsl (cs:=[w].map sv) rfl (by decide) fun b m1 k1=>?_;refine k1.cs (X5d k1.ps (ws:=[w]) (k1.slx (List.mem_cons_self ..)) (by simp) (by simp) (by grind) d) fun m2 k2=>?_;exact k2.rets
theorem W.ins2 (h:W c m0 φ s cap m φ s' ts) {w1 w2:Str} (hw1:w1.length <= 65536) (hw2:w2.length <= 65536) (d:Nat) (hS:Xz s' [w1,w2]=S) :
  Res c m0 φ s (bp (X5 Q4 [.string ⟨#[]⟩] 1 2 [(0,sv w1),(1,sv w2)] m) fun y m=>bp (TA (d + 2) Q7 [pt c.P 0 0,y] m) fun _ m=>some (.tuple ⟨[]⟩,m)) (Q_s cap φ (.tuple ⟨[]⟩) S):=by
 subst hS;refine h.bsl (cs:=[w1,w2].map sv) rfl (by decide) fun b m1 k1=>?_;refine k1.cs (X5d k1.ps (ws:=[w1,w2]) (k1.slx (List.mem_cons_self ..)) (by simp) (by simp) (by grind) d) fun m2 k2=>?_;exact k2.rets
theorem W.badr (h:W c m0 φ s cap m φ s' ts) (e:Int) (he:e ≠ 0/\e ≠ 5) (d:Nat) (hS:badS c s' e=S) :
  Res c m0 φ s (bp (TA (d + 2) Q5 [pt c.C 0 0,.int .i64 e] m) fun _ m=>some (.tuple ⟨[]⟩,m)) (Q_s cap φ (.tuple ⟨[]⟩) S):=by
 subst hS;exact h.cl (X3t h.ps e he d) fun m1 k1=>k1.rets
theorem X3x (a b:Nat):bin .eql true true .int (I a) (I b)=some (.bool (decide (a=b))):=by
 rw [Q79];congr 2;simp only [decide_eq_decide];omega
theorem Xvj (a b:Nat):bin .neq true true .int (I a) (I b)=some (.bool (decide (a ≠ b))):=by
 rw [Q9y];congr 2;simp only [decide_eq_decide];omega
abbrev d6 (d:Nat):Gt:=⟨TA (d + 6),18446744073709551616⟩
theorem Xvc (d:Nat) (hw:w.length <= 65536) (h:W c m0 φ s cap m φ s' ts) (hl:s'.X [3,0]=some (.c l)) (hb:b * 11 + 11 <= l.length) :
    Res c m0 φ s (Q8u (dd d) (pt (φ [3,0]).b (b * 11) (φ [3,0]).ver) (pt c.C 0 0) (pt c.P 0 0) (sv w) m) (Q_s cap φ (.tuple ⟨[]⟩)
      (let k:=X35 c s'.cu false
       let s1:=(s'.at k.2).sto [3,0] (b * 11 + 3) [I k.1]
       Xz (if k.1=0 then badS c s1 10 else s1) [w])):=by
  have cm:=Xgr h.ps false (d + 2);generalize X35 c s'.cu false=K at cm ⊢;dsimp only;delta Q8u C Z qe;refine h.cl cm fun m1 k1=>?_;simp only [Xh,X9,X3];refine k1.st1 hl kt3 (by omega) rfl rfl (by decide) (by rw [fd_row (r:=2) (sz:=11) rfl b 3 (by omega)]; exact ok_i _ _) fun m2 l2 hl2 hn2 k2=>?_;delta Qcb C D qa qg A;have ld:X8 false 1 (pt (φ [3,0]).b (b * 11 + 3) (φ [3,0]).ver) m2=some (I K.1):=by
    refine k2.ps.ldv (k:=[3,0]) (by decide) hl2 (fun e=>by cases e) ?_;have hl3:(s'.at K.2).X [3,0]=some (.c l):=hl;have e:=hl2;rw [X1b hl3,NX.set_eq] at e;cases e;have g:=get_put (l:=l) (z:=[Cl.v (I K.1)]) (o:=b * 11 + 3) (by grind) (b * 11 + 3);refine Eq.trans g ?_;rw [if_pos ⟨Nat.le_refl _,by simp⟩,Nat.sub_self];rfl
  have e0:bin .eql true true .int (I K.1) (.int .i64 0)=some (.bool (decide (K.1=0))):=X3x K.1 0;simp only [Xh,X9,X3,ld,e0];delta Q8t F qw qo;refine Xk (fun hb=>?_) (fun hb=>?_)
  . rw [if_pos (of_decide_eq_true hb)];refine k2.cl (X3t k2.ps 10 (by decide) (d + 6)) fun m3 k3=>?_;exact k3.ins1 hw (d + 6) rfl
  . rw [if_neg (of_decide_eq_false hb)];exact k2.ins1 hw (d + 6) rfl
theorem Xw3 (h:0 < n) (h2:n <= 65536):bin .rem true true .int (.int .i64 1) (I n)=some (I (1 % n:Nat)):=by
 grind [Qt4,Int.tmod_eq_emod_of_nonneg]
theorem Xjr (d:Nat) (hw:w.length <= 65536) (h:W c m0 φ s cap m φ s' ts) :
  Res c m0 φ s (Q3b (dd d) (pt c.P 0 0) (sv w) (pt c.C 0 0) m) (Q_s cap φ (.tuple ⟨[]⟩) (Xz s' [w,(wdC c (1 % c.ws.length)).1])):=by
 have hp:=Xtu h.ps;have hl:=h.ps.wl.len;have hi:1 % c.ws.length < c.ws.length:=Nat.mod_lt _ hp;obtain ⟨p,p1,p2,p3,_⟩:=h.ps.wl.ix hi;have ht:=(h.ps.wl.txt _ (List.mem_of_getElem? (Xhv (c:=c) hi))).1;delta Q3b F H qa B N Y qt A qo;simp only [Xh,X9,X3,h.ps.ld0,h.ps.wl.len',Xw3 hp hl,p1,p2,Nat.zero_add,p3];exact h.ins2 hw ht (d + 6) rfl
set_option maxHeartbeats 1000000 in
theorem Xs2 (h:PS c cap m φ s) (hc:cap <= 8589934592) (hn:0 < nOf s.X [0] 3) (d:Nat):StC c cap m φ s (TA (d + 9) Q7c [pt c.P 0 0,pt c.C 0 0] m) (.tuple ⟨[]⟩) (X6m c s):=by
 refine h.stR (X7v _ _ _ _) fun m0 k=>?_;obtain ⟨l,hl,_,hll,ld,sb,ix⟩:=k.ps.last hc (f:=3) (r':=2) (sz:=11) rfl (by omega) rfl hn;delta Q4x H qr B N Y A;simp only [Xh,X9,X3,Nat.zero_add,ld,X2y,sb,ix];delta Qci C;have hw:=X2w k.ps;refine k.cl (X2x k.ps (d + 6)) fun m1 k1=>?_;delta Qch Qcg B qd E;unfold X6m;dsimp only;have e0:nOf (s.at (Xf c s.cu).2).X [0] 3=nOf s.X [0] 3:=rfl;rw [e0];generalize nOf s.X [0] 3 - 1=b at hll ⊢;generalize (Xf c s.cu).1=w at hw ⊢;have hl1:(s.at (Xf c s.cu).2).X [3,0]=some (.c l):=hl;generalize s.at (Xf c s.cu).2=s1 at k1 hl1 ⊢;have strw:∀ x:Str,sv x=sv x:=fun _=>rfl;simp only [X1c,Qw,X3];delta Qcf F C Q B Z qw qd E qo;refine Xk (fun hb=>?_) (fun hb=>?_)
 ·rw [if_pos (of_decide_eq_true hb)];have hnm:=X3i k1.ps;refine k1.cl (X38 k1.ps (d + 3)) fun m2 k2=>?_;simp only [Xh,X9,X3];refine k2.st1 hl1 kt3 (by omega) rfl rfl (by decide) (by rw [fd_row (r:=2) (sz:=11) rfl b 1 (by omega)]; exact ok_s (Nat.le_trans hnm (by decide))) fun m3 l3 hl3 hn3 k3=>?_;exact k3.ins1 hw (d + 6) rfl
 rw [if_neg (of_decide_eq_false hb)];simp only [X1c,Qw,X3];delta Qce C Q B Z qd E;refine Xk (fun hb=>?_) (fun hb=>?_)
 ·rw [if_pos (of_decide_eq_true hb)];refine k1.cl (X4h k1.ps (d + 3)) fun m2 k2=>?_;simp only [Xh,X9,X3];refine k2.st1 hl1 kt3 (by omega) rfl rfl (by decide) (by rw [fd_row (r:=2) (sz:=11) rfl b 2 (by omega)]; exact ok_i _ _) fun m3 l3 hl3 hn3 k3=>?_;have key:=Xvc d (l:=l3) (b:=b) hw k3 hl3 (by omega);dsimp only at key;exact key
 rw [if_neg (of_decide_eq_false hb)];simp only [X1c,Qw,X3];delta Qcd F C Q D B Z qt qg A qd E qo;refine Xk (fun hb=>?_) (fun hb=>?_)
 ·rw [if_pos (of_decide_eq_true hb)];have hnm:=X3i k1.ps;refine k1.cl (X38 k1.ps (d + 3)) fun m2 k2=>?_;refine k2.bsl (cs:=[[105,110],[111,117,116]].map sv) rfl (by decide) fun bs m3 k3=>?_;refine k3.cl (X6d k3.ps (k3.slx (ws:=[[105,110],[111,117,116]]) (List.mem_cons_self ..)) (by simp) (d + 5)) fun m4 k4=>?_;have e1:bin .eql true true .int (I (oneC c (s1.at (X17 c s1.cu).2).cu [[105,110],[111,117,116]]).1) (.int .i64 0)=some (.bool (decide ((oneC c (X17 c s1.cu).2 [[105,110],[111,117,116]]).1=0))):=X3x _ 0;simp only [e1,X3];refine Xk (fun hb=>?_) (fun hb=>?_)
  ·rw [if_pos (of_decide_eq_true hb)];simp only [Xh,X9,X3];refine k4.st1 hl1 kt3 (by omega) rfl rfl (by decide) (by rw [fd_row (r:=2) (sz:=11) rfl b 5 (by omega)]; exact ok_s (Nat.le_trans hnm (by decide))) fun m5 l5 hl5 hn5 k5=>?_;exact k5.ins2 (w2:=[105,110]) hw (by decide) (d + 6) rfl
  ·rw [if_neg (of_decide_eq_false hb)];simp only [Xh,X9,X3];refine k4.st1 hl1 kt3 (by omega) rfl rfl (by decide) (by rw [fd_row (r:=2) (sz:=11) rfl b 6 (by omega)]; exact ok_s (Nat.le_trans hnm (by decide))) fun m5 l5 hl5 hn5 k5=>?_;exact k5.ins2 (w2:=[111,117,116]) hw (by decide) (d + 6) rfl
 rw [if_neg (of_decide_eq_false hb)];simp only [X1c,Qw,X3];delta Qcc F C Q B Z qx qw qt qd E qo;refine Xk (fun hb=>?_) (fun hb=>?_)
 ·rw [if_pos (of_decide_eq_true hb)];refine k1.bsl (cs:=[.int .u8 1,.int .u8 2]) rfl (by decide) fun bb m2 k2=>?_;refine k2.bsl (cs:=[[105,110,115,105,100,101],[111,117,116,115,105,100,101]].map sv) rfl (by decide) fun bs m3 k3=>?_;have lt:=Xg0 c s1.cu [[105,110,115,105,100,101],[111,117,116,115,105,100,101]] (by simp);refine k3.cl (X6d k3.ps (k3.slx (ws:=[[105,110,115,105,100,101],[111,117,116,115,105,100,101]]) (List.mem_cons_self ..)) (by simp) (d + 5)) fun m4 k4=>?_;generalize hO:oneC c s1.cu [[105,110,115,105,100,101],[111,117,116,115,105,100,101]]=O at k4 lt ⊢;have lt:O.1 < 2:=lt;have ix:Xa 1 (.slice (some ⟨bb,0,some 1⟩) 2 1) (I O.1)=some (pt bb (O.1 * 1) 0):=X3e ⟨bb,0,1⟩ (by simp) 2 1 O.1 .i64 lt;have ldx:X8 false 1 (pt bb (O.1 * 1) 0) m4=some (.int .u8 ((O.1 + 1:Nat):Int)):=k4.ld (List.mem_cons_of_mem _ (List.mem_cons_self ..)) (by
   grind)
  simp only [ix,X3,ldx,Xh,X9];refine k4.st1 hl1 kt3 (by omega) rfl rfl (by decide) (by rw [fd_row (r:=2) (sz:=11) rfl b 7 (by omega)]; exact ok_i _ _) fun m5 l5 hl5 hn5 k5=>?_;exact k5.ins1 hw (d + 6) rfl
 rw [if_neg (of_decide_eq_false hb)];simp only [X1c,Qw,X3];delta Qbl F C Q D Z qw qy A qd qf E qo;refine Xk (fun hb=>?_) (fun hb=>?_)
 ·rw [if_pos (of_decide_eq_true hb)];refine k1.bsl (cs:=[[97,114,101,97],[99,111,115,116],[112,97,115,115,105,118,101]].map sv) rfl (by decide) fun bs m3 k3=>?_;refine k3.cl (X6d k3.ps (k3.slx (ws:=[[97,114,101,97],[99,111,115,116],[112,97,115,115,105,118,101]]) (List.mem_cons_self ..)) (by simp) (d + 5)) fun m4 k4=>?_;delta Qbk C D Z qg A qf;generalize hO:oneC c s1.cu [[97,114,101,97],[99,111,115,116],[112,97,115,115,105,118,101]]=O at k4 ⊢;have ez:∀ z:Nat,bin .eql true true .int (I O.1) (.int .i64 (z:Int))=some (.bool (decide (O.1=z))):=fun z=>by
   rw [Q79];congr 2;simp only [decide_eq_decide];omega
  have ez0:bin .eql true true .int (I O.1) (.int .i64 0)=some (.bool (decide (O.1=0))):=ez 0;have ez1:bin .eql true true .int (I O.1) (.int .i64 1)=some (.bool (decide (O.1=1))):=ez 1;simp only [ez0,ez1,X3];refine Xk (fun hb=>?_) (fun hb=>?_)
  ·rw [if_pos (of_decide_eq_true hb)];refine k4.cl (X18 k4.ps 0 16777216 16777216 rfl (by omega) (d + 2)) fun m5 k5=>?_;simp only [Xh,X9,X3];refine k5.st1 hl1 kt3 (by omega) rfl rfl (by decide) (by rw [fd_row (r:=2) (sz:=11) rfl b 8 (by omega)]; exact ok_i _ _) fun m6 l6 hl6 hn6 k6=>?_;exact Xjr d hw k6
  ·rw [if_neg (of_decide_eq_false hb)];refine Xk (fun hb=>?_) (fun hb=>?_)
   ·rw [if_pos (of_decide_eq_true hb)];refine k4.cl (X18 k4.ps 1 65535 65535 rfl (by omega) (d + 2)) fun m5 k5=>?_;simp only [Xh,X9,X3];refine k5.st1 hl1 kt3 (by omega) rfl rfl (by decide) (by rw [fd_row (r:=2) (sz:=11) rfl b 9 (by omega)]; exact ok_i _ _) fun m6 l6 hl6 hn6 k6=>?_;exact Xjr d hw k6
   ·rw [if_neg (of_decide_eq_false hb)];simp only [Xh,X9,X3];refine k4.st1 hl1 kt3 (by omega) rfl rfl (by decide) (by rw [fd_row (r:=2) (sz:=11) rfl b 10 (by omega)]; exact ok_b _) fun m6 l6 hl6 hn6 k6=>?_;exact Xjr d hw k6
 rw [if_neg (of_decide_eq_false hb)];simp only [X1c,Qw,X3];refine Xk (fun hb=>?_) (fun hb=>?_)
 ·rw [if_pos (of_decide_eq_true hb)];simp only [Xh,X9,X3];refine k1.st1 hl1 kt3 (by omega) rfl rfl (by decide) (by rw [fd_row (r:=2) (sz:=11) rfl b 4 (by omega)]; exact ok_b _) fun m2 l2 hl2 hn2 k2=>?_;exact k2.ins1 hw (d + 6) rfl
 ·rw [if_neg (of_decide_eq_false hb)];exact k1.badr 130 (by decide) (d + 6) rfl
variable {c:Cx} {m0 m:Mem} {φ0 φ:Phi} {s0 s s':PSt} {cap δ:Nat} {ts:List Tmp} {x:Option Rs} {Q:Value->Nat->Phi->PSt->Prop} {v:Value} {cu:Cu}
theorem kt4:kt [4,0]=some 3:=rfl
abbrev ruL (p:Bool) (pr:Int) (a1 a2 b1 b2 d1 d2 e1 e2:Int):List Value:=[.bool p,.int .i64 pr,.int .u32 a1,.int .i64 a2,.int .u32 b1,.int .i64 b2,.int .u32 d1,.int .u32 d2,.int .u32 e1,.int .u32 e2]
def Xf9 (c:Cx) (s:PSt) (b:Nat) (p:Bool) (pr:Int):PSt:=
 let a:=X7w c s.cu;let q:=X2g c a.2 pr;let d:=X7w c q.2;let e:=X2g c d.2 pr
 (s.at e.2).app [4,0] (b * 2 + 1) [.v (.bool p),.v (.int .i64 pr),.v (u32 a.1.1),.v (I a.1.2),.v (u32 d.1.1),.v (I d.1.2),.v (.int .u32 q.1.1),.v (.int .u32 q.1.2),.v (.int .u32 e.1.1),.v (.int .u32 e.1.2)]
theorem Xxv (d:Nat) {b5:Nat} (hc:cap <= 8589934592) (h:W c m0 φ s cap m φ s' ((b5,0,ruL p pr 0 0 0 0 0 0 0 0) :: ts)) (hl:s'.X [4,0]=some (.c l)) (hb:b * 2 + 2 <= l.length) :
  Res c m0 φ s (Q1v (dd d) (pt c.C 0 0) (pt b5 0 0) (pt (φ [4,0]).b (b * 2) (φ [4,0]).ver) m) (Q_p cap 1 (.tuple ⟨[]⟩) (Xf9 c s' b p pr)):=by
 delta Q1v C O H qc qa T Z qp qv;refine h.cl (Xnt h.ps (d + 1)) fun m1 k1=>?_;generalize hA:X7w c s'.cu=A at k1;simp only [X9,X3,Nat.zero_add];refine k1.sto (l1:=[]) (o:=2) (y:=pfx A.1.1 (A.1.2:Int)) (cs':=ruL p pr A.1.1 A.1.2 0 0 0 0 0 0) rfl rfl (by show 2 + 2 <= 10; omega) rfl fun m2 k2=>?_;have ld2:X8 false 1 (pt b5 1 0) m2=some (.int .i64 pr):=k2.ld (List.mem_cons_self ..) rfl;simp only [ld2,X3];refine k2.cl (Xl8 k2.ps pr (d + 1)) fun m3 k3=>?_;rw [X2f] at k3 ⊢;generalize hB:X2g c A.2 pr=B at k3 ⊢;refine k3.sto (l1:=[]) (o:=6) (y:=spV B.1.1 B.1.2) (cs':=ruL p pr A.1.1 A.1.2 0 0 B.1.1 B.1.2 0 0) rfl rfl (by show 6 + 2 <= 10; omega) rfl fun m4 k4=>?_;refine k4.cl (Xnt k4.ps (d + 1)) fun m5 k5=>?_;rw [X2f] at k5 ⊢;generalize hD:X7w c B.2=D at k5 ⊢;refine k5.sto (l1:=[]) (o:=4) (y:=pfx D.1.1 (D.1.2:Int)) (cs':=ruL p pr A.1.1 A.1.2 D.1.1 D.1.2 B.1.1 B.1.2 0 0) rfl rfl (by show 4 + 2 <= 10; omega) rfl fun m6 k6=>?_;have ld6:X8 false 1 (pt b5 1 0) m6=some (.int .i64 pr):=k6.ld (List.mem_cons_self ..) rfl;simp only [ld6,X3];refine k6.cl (Xl8 k6.ps pr (d + 1)) fun m7 k7=>?_;rw [X2f] at k7 ⊢;generalize hE:X2g c D.2 pr=E at k7 ⊢;refine k7.sto (l1:=[]) (o:=8) (y:=spV E.1.1 E.1.2) (cs':=ruL p pr A.1.1 A.1.2 D.1.1 D.1.2 B.1.1 B.1.2 E.1.1 E.1.2) rfl rfl (by show 8 + 2 <= 10; omega) rfl fun m8 k8=>?_;have hl8:((((s'.at A.2).at B.2).at D.2).at E.2).X [4,0]=some (.c l):=hl;have hf:fdAt 3 (b * 2 + 1)=some (.l 4):=by rw [fd_row (r:=3) (sz:=2) rfl b 1 (by omega)]; rfl
 obtain ⟨_,_,ldh,_,_⟩:=k8.ps.list hl8 kt4 (o:=b * 2 + 1) (by omega) hf;have ldr:X8 true 10 (pt b5 0 0) m8=some (.agg ⟨ruL p pr A.1.1 A.1.2 D.1.1 D.1.2 B.1.1 B.1.2 E.1.1 E.1.2⟩):=k8.lds (o:=0) (List.mem_cons_self ..) (by simp) rfl;simp only [Xh,X9,X3,ldh,ldr];refine k8.bsl (cs:=ruL p pr A.1.1 A.1.2 D.1.1 D.1.2 B.1.1 B.1.2 E.1.1 E.1.2) rfl (by decide) fun b2 m9 k9=>?_;have k9:W c m0 φ s cap m9 φ ((((s'.at A.2).at B.2).at D.2).at E.2) ((b2,0,[Cl.v (.bool p),.v (.int .i64 pr),.v (u32 A.1.1),.v (I A.1.2),.v (u32 D.1.1),.v (I D.1.2),.v (.int .u32 B.1.1),.v (.int .u32 B.1.2),.v (.int .u32 E.1.1),.v (.int .u32 E.1.2)].map Cl.raw) :: _):=k9;refine k9.apk hc hl8 kt4 (by omega) hf (sz:=10) rfl rfl rfl (X2t (by repeat' (first | exact trivial | exact ok_i _ _ | exact ok_b _ | apply And.intro))) (by decide) fun cap1 m10 φ1 hc1 _ k10=>?_
 have e:Xf9 c s' b p pr=((((s'.at A.2).at B.2).at D.2).at E.2).app [4,0] (b * 2 + 1) [.v (.bool p),.v (.int .i64 pr),.v (u32 A.1.1),.v (I A.1.2),.v (u32 D.1.1),.v (I D.1.2),.v (.int .u32 B.1.1),.v (.int .u32 B.1.2),.v (.int .u32 E.1.1),.v (.int .u32 E.1.2)]:=by
  unfold Xf9;dsimp only;rw [hA,hB,hD,hE];rfl
 rw [e];exact k10.retp hc1
theorem Xwa (h:PS c cap m φ s) (hc:cap <= 8589934592) (hn:0 < nOf s.X [0] 4) (d:Nat):PaD c cap 1 m φ s (TA (d + 9) Q8f [pt c.P 0 0,pt c.C 0 0] m) (.tuple ⟨[]⟩) (Xcf c s):=by
 refine h.pad (X8r _ _ _ _) fun m0 k=>?_;obtain ⟨l,hl,_,hll,ld,sb,ix⟩:=k.ps.last hc (f:=4) (r':=3) (sz:=2) rfl (by omega) rfl hn;delta Q5l H qr B N Y A;simp only [Xh,X9,X3,Nat.zero_add,ld,X2y,sb,ix];delta Qdk F C B T S qt qg A E;refine k.bsl (cs:=[[112,101,114,109,105,116],[100,101,110,121]].map sv) rfl (by decide) fun bs m1 k1=>?_;refine k1.cl (X6d k1.ps (k1.slx (ws:=[[112,101,114,109,105,116],[100,101,110,121]]) (List.mem_cons_self ..)) (by simp) (d + 5)) fun m2 k2=>?_;have spec:Xcf c s=(let o:=oneC c s.cu [[112,101,114,109,105,116],[100,101,110,121]]
   let x1:=isC c o.2 [97,110,121];let x2:=isC c x1.2 [116,99,112];let x3:=isC c x2.2 [117,100,112];let x4:=isC c x3.2 [105,99,109,112];let n:=Xb c x4.2 0 255;let P:=decide (o.1=0);let b:=nOf s.X [0] 4 - 1
   if x1.1=true then Xf9 c (s.at x1.2) b P (-1) else if x2.1=true then Xf9 c (s.at x2.2) b P 6 else if x3.1=true then Xf9 c (s.at x3.2) b P 17 else if x4.1=true then Xf9 c (s.at x4.2) b P 1 else Xf9 c (s.at n.2) b P n.1):=by
  unfold Xcf;dsimp only;split
  ·rfl
  ·split
   ·rfl
   ·split
    ·rfl
    ·split <;> rfl
 rw [spec];dsimp only;generalize hO:oneC c s.cu [[112,101,114,109,105,116],[100,101,110,121]]=O at k2 ⊢;generalize nOf s.X [0] 4 - 1=b at hll ⊢;have e0:bin .eql true true .int (I O.1) (.int .i64 0)=some (.bool (decide (O.1=0))):=by
  simp [Q79,decide_eq_decide]
 generalize decide (O.1=0)=p at e0 ⊢;have eb:Xg Qgr [(0,1),(1,1),(2,2),(4,2),(6,2),(8,2)] [(0,.bool p)]=some (.agg ⟨ruL p 0 0 0 0 0 0 0 0 0⟩):=Eq.trans rfl rfl;simp only [e0,eb,X3];refine k2.new fun b5 m3 k3=>?_;refine k3.sto (l1:=[]) (o:=0) (y:=.agg ⟨ruL p 0 0 0 0 0 0 0 0 0⟩) (cs':=ruL p 0 0 0 0 0 0 0 0 0) rfl rfl (by show 0 + 10 <= 10; omega) rfl fun m4 k4=>?_;delta Qdj C Q qk A E;have fin:∀ (pr:Int) (m':Mem) (s':PSt),s'.X [4,0]=some (.c l)->W c m0 φ s cap m' φ s' ((b5,0,ruL p 0 0 0 0 0 0 0 0 0) :: [(bs,0,[[112,101,114,109,105,116],[100,101,110,121]].map sv)]) ->
   Res c m0 φ s (bp (unt (Xd 1 (pt b5 1 0) (.int .i64 pr) m')) fun _ m=>Q1v (dd d) (pt c.C 0 0) (pt b5 0 0) (pt (φ [4,0]).b (b * 2) (φ [4,0]).ver) m) (Q_p cap 1 (.tuple ⟨[]⟩) (Xf9 c s' b p pr)):=fun pr m' s' hl' k'=>by
  refine k'.sto (l1:=[]) (o:=1) (y:=.int .i64 pr) (cs':=ruL p pr 0 0 0 0 0 0 0 0) rfl rfl (by show 1 + 1 <= 10; omega) rfl fun m5 k5=>?_;exact Xxv d hc k5 hl' hll
 refine k4.cl (X5n k4.ps [97,110,121] (d + 6)) fun m5 k5=>?_;rw [X2f] at k5 ⊢;simp only [X9,X3,Nat.zero_add];refine Xk (fun hb=>?_) (fun hb=>?_)
 ·rw [if_pos hb];exact fin (-1) m5 _ hl k5
 rw [if_neg (by grind)];refine k5.cl (X5n k5.ps [116,99,112] (d + 6)) fun m6 k6=>?_;rw [X2f] at k6 ⊢;refine Xk (fun hb=>?_) (fun hb=>?_)
 ·rw [if_pos hb];exact fin 6 m6 _ hl k6
 rw [if_neg (by grind)];refine k6.cl (X5n k6.ps [117,100,112] (d + 6)) fun m7 k7=>?_;rw [X2f] at k7 ⊢;refine Xk (fun hb=>?_) (fun hb=>?_)
 ·rw [if_pos hb];exact fin 17 m7 _ hl k7
 rw [if_neg (by grind)];refine k7.cl (X5n k7.ps [105,99,109,112] (d + 6)) fun m8 k8=>?_;rw [X2f] at k8 ⊢;refine Xk (fun hb=>?_) (fun hb=>?_)
 ·rw [if_pos hb];exact fin 1 m8 _ hl k8
 rw [if_neg (by grind)];refine k8.cl (X18 k8.ps 0 255 255 rfl (by omega) (d + 2)) fun m9 k9=>?_;rw [X2f] at k9 ⊢;exact fin _ m9 _ hl k9
variable {c:Cx} {m0 m:Mem} {φ0 φ:Phi} {s0 s s':PSt} {cap δ:Nat} {ts:List Tmp} {x:Option Rs} {Q:Value->Nat->Phi->PSt->Prop} {v:Value} {cu:Cu}
theorem kt10:kt [10,0]=some 14:=rfl
theorem kt11:kt [11,0]=some 16:=rfl
theorem Res.pd {x:Option Rs} {v:Value} (h:Res c m0 φ0 s0 x (Q_s cap φ v S)):Res c m0 φ0 s0 x (Q_p cap δ v S):=by
 obtain ⟨v',m1,cap1,φ1,s1,a1,a2,a3,rfl,rfl,rfl,rfl⟩:=h;exact ⟨_,m1,_,_,_,a1,a2,a3,rfl,Nat.le_add_right _ _,rfl⟩
theorem X5e (L:Lc) (n sz:Nat) (m:Mem):again (pur (some (slV L n sz)) m) (slV L n sz)=true:=by
 show vsame 8 (slV L n sz) (slV L n sz)=true;unfold slV;split <;> simp [vsame]
theorem Xr0 (h:PS c cap m φ s) (third:Str) (fr:Nat) (typed:Bool):(X2e c s.cu third fr typed).1.2.2.2.length <= 65536:=by
 show (rmR c _).1.length <= 65536;have key:∀ cu:Cu,(rmR c cu).1.length <= 65536:=fun cu=>by
  unfold rmR;split
  ·show (Xf c _).1.length <= 65536;unfold Xf;split
   ·rename_i hm;exact (h.wl.txt _ (List.mem_of_getElem? (Xhv (X93 (s:={ s with cu:=(isC c cu [114,111,117,116,101,45,109,97,112]).2 }) hm)))).1
   ·simp
  ·simp
 exact key _
theorem W.red (d:Nat) (h:W c m0 φ s cap m φ s' ts) (hc:cap <= 8589934592) (hk:s'.X k=some (.c l)) (hr:kt k=some r) (ho:o < l.length) (hf:fdAt r o=some (.l 15)) (third:Str) (fr:Nat) (typed:Bool) :
  Res c m0 φ s (bp (pur (X8 false 1 (pt (φ k).b o (φ k).ver) m) m) fun x21 m =>
   bp (TA (d + 7) Q4g [pt c.C 0 0,sv third,.int .u8 (fr:Int),.bool typed] m) fun x22 m =>
   ckB (again (pur (X8 false 1 (pt (φ k).b o (φ k).ver) m) m) x21 && true)
    (bp (X5 Qdn Q67 4 1 [(0,x22)] m) fun x23 m =>
   bp (apS Qdn 4 40 x21 x23 m) fun x24 m =>
   bp (unt (Xd 1 (pt (φ k).b o (φ k).ver) x24 m)) fun _ m =>
   some (.tuple ⟨[]⟩,m))) (Q_p cap 1 (.tuple ⟨[]⟩) ((s'.at (X2e c s'.cu third fr typed).2).app k o (rdC (X2e c s'.cu third fr typed).1))):=by
 obtain ⟨_,_,ld,_,_⟩:=h.ps.list hk hr ho hf;rw [ld,X3];have hle:=Xr0 h.ps third fr typed;refine h.cl (Xqc h.ps third fr typed d) fun m1 k1=>?_;generalize X2e c s'.cu third fr typed=R at k1 hle ⊢;have hk1:(s'.at R.2).X k=some (.c l):=hk;obtain ⟨_,_,ld1,_,_⟩:=k1.ps.list hk1 hr ho hf;have ld1:X8 false 1 (pt (φ k).b o (φ k).ver) m1=some (slV (φ (o :: k)) (nOf s'.X k o) (rowL 15)):=ld1;rw [ld1,X5e,Bool.and_true,Xr];refine k1.bsl (cs:=rdL R.1.1 R.1.2.1 R.1.2.2.1 R.1.2.2.2) rfl (by decide) fun b2 m2 k2=>?_;have k2:W c m0 φ s cap m2 φ (s'.at R.2) ((b2,0,(rdC R.1).map Cl.raw) :: ts):=k2;refine k2.apk hc hk1 hr ho hf (sz:=4) rfl rfl rfl (X2t (by repeat' (first | exact trivial | exact ok_i _ _ | exact ok_s (Nat.le_trans hle (by decide)) | apply And.intro))) (by decide) fun cap1 m3 φ1 hc1 _ k3=>?_
 exact k3.retp hc1
theorem Xv2 (h:PS c cap m φ s) (hc:cap <= 8589934592) (hn:0 < nOf s.X [0] 10) (d:Nat):PaD c cap 1 m φ s (TA (d + 9) Q8g [pt c.P 0 0,pt c.C 0 0] m) (.tuple ⟨[]⟩) (Xdh c s):=by
 refine h.pad (X8h _ _ _ _) fun m0 k=>?_;obtain ⟨l,hl,_,hll,ld,sb,ix⟩:=k.ps.last hc (f:=10) (r':=14) (sz:=3) rfl (by omega) rfl hn;delta Q5p L F C qj H D qi P qr B N Z Y qw qp A qd qf E qo qv;simp only [Xh,X9,X3,Nat.zero_add,ld,X2y,sb,ix];have hw:=X2w k.ps;refine k.cl (X2x k.ps (d + 6)) fun m1 k1=>?_;unfold Xdh;dsimp only;have e0:nOf (s.at (Xf c s.cu).2).X [0] 10=nOf s.X [0] 10:=rfl;rw [e0];generalize nOf s.X [0] 10 - 1=b at hll ⊢;generalize (Xf c s.cu).1=w at hw ⊢;have hl1:(s.at (Xf c s.cu).2).X [10,0]=some (.c l):=hl;generalize s.at (Xf c s.cu).2=s1 at k1 hl1 ⊢
 try simp only [X1c,Qw,X3]
 refine Xk (fun hb=>?_) (fun hb=>?_)
 ·rw [if_pos (of_decide_eq_true hb)];refine k1.cl (X4h k1.ps (d + 3)) fun m2 k2=>?_
  try simp only [Xh,X9,X3]
  refine k2.st1 hl1 kt10 (by omega) rfl rfl (by decide) (by rw [fd_row (r:=14) (sz:=3) rfl b 1 (by omega)]; exact ok_i _ _) fun m3 l3 hl3 hn3 k3=>?_;exact (k3.ins1 hw (d + 6) rfl).pd
 rw [if_neg (of_decide_eq_false hb)]
 try simp only [X1c,Qw,X3]
 refine Xk (fun hb=>?_) (fun hb=>?_)
 ·rw [if_pos (of_decide_eq_true hb)]
  try simp only [Xh,X9,X3]
  exact k1.red (d + 1) hc hl1 kt10 (by omega) (by rw [fd_row (r:=14) (sz:=3) rfl b 2 (by omega)]; rfl) [98,103,112] 8 true
 ·rw [if_neg (of_decide_eq_false hb)];exact (k1.badr 130 (by decide) (d + 6) rfl).pd
theorem Xxh (i:Option Nat):bin .geq true true .int (idxV i) (.int .i64 0)=some (.bool i.isSome):=by
 cases i with
 | none=>show bin .geq true true .int (.int .i64 (-1)) (.int .i64 0)=_; rw [Qlg]; rfl
 | some j=>show bin .geq true true .int (I j) (.int .i64 0)=_; rw [Qlg,decide_eq_true (by omega)]; rfl
theorem Xnn (i:Option Nat):bin .lss true true .int (idxV i) (.int .i64 0)=some (.bool i.isNone):=by
 cases i with
 | none=>show bin .lss true true .int (.int .i64 (-1)) (.int .i64 0)=_; rw [Q1d]; rfl
 | some j=>show bin .lss true true .int (I j) (.int .i64 0)=_; rw [Q1d,decide_eq_false (by omega)]; rfl
theorem nb_9 (h:W c m0 φ s cap1 m φ1 s' ts) (hc1:cap1 <= cap + 1) (hb:(bw,0,ws.map sv) ∈ ts) (hn:n=ws.length) (hr:r < 2) (h0:ws ≠ []) (hle:ws.length <= 16) (hl:∀ w ∈ ws,w.length <= 65536) (d:Nat) (hS:Xz s' ws=S) :
  Res c m0 φ s (Q2l (d6 d) (pt c.P 0 0) (.slice (some ⟨bw,0,some 1⟩) n r) m) (Q_p cap 1 (.tuple ⟨[]⟩) S):=by
 subst hS;delta Q2l qo;exact h.cs (X5d h.ps (h.slx' hb hn hr) h0 hle hl (d + 4)) fun m1 k1=>k1.retp hc1
def X7s (s:PSt) (b:Nat) (i:Option Nat) (o:Nat) (yl:List Value) (ws:List Str):PSt:=match i with
 | none=>if o=0 then Xz (s.app [11,0] (b * 6 + 4) (yl.map .v)) ws else s.sto [0] 16 [.bool true]
 | some j=>Xz (if o=0 then s else s.sto [b * 6 + 4,11,0] (j * 6) yl) ws
theorem nb_6 (hc:cap <= 8589934592) (h:W c m0 φ s cap m φ s' ts) (hl:s'.X [11,0]=some (.c l)) (hll:b * 6 + 6 <= l.length) (hi:∀ j,i=some j->j < nOf s'.X [11,0] (b * 6 + 4)) (hby:(by',0,yl) ∈ ts) (hy6:yl.length=6) (hyt:okL (rowT 18) (yl.map .v)) (hy1:yl.all one=true) (hbw:(bw,0,ws.map sv) ∈ ts) (hn:n=ws.length) (hr:r < 2) (h0:ws ≠ []) (hle:ws.length <= 16) (hwl:∀ w ∈ ws,w.length <= 65536) (d:Nat) :
  Res c m0 φ s (Q1n (d6 d) (I o) (idxV i) (pt (φ [11,0]).b (b * 6) (φ [11,0]).ver) (pt by' 0 0) (pt c.P 0 0) (.slice (some ⟨bw,0,some 1⟩) n r) m) (Q_p cap 1 (.tuple ⟨[]⟩) (X7s s' b i o yl ws)):=by
 have hf:fdAt 16 (b * 6 + 4)=some (.l 18):=by rw [fd_row (r:=16) (sz:=6) rfl b 4 (by omega)]; rfl
 obtain ⟨_,_,ldh,_,q5⟩:=h.ps.list hl kt11 (o:=b * 6 + 4) (by omega) hf;have ldy:X8 true 6 (pt by' 0 0) m=some (.agg ⟨yl⟩):=h.lds (o:=0) hby (by omega) (by grind);have e0:bin .eql true true .int (I o) (.int .i64 0)=some (.bool (decide (o=0))):=X3x o 0;have e1:bin .neq true true .int (I o) (.int .i64 0)=some (.bool (decide (o ≠ 0))):=Xvj o 0;delta Q1n D B qg qe A;simp only [e0,X3];have hold:∀ x7:Bool,x7=(decide (o=0) && i.isNone)->Res c m0 φ s (Q49 (d6 d) (.bool x7) (pt (φ [11,0]).b (b * 6) (φ [11,0]).ver) (pt by' 0 0) (pt c.P 0 0) (.slice (some ⟨bw,0,some 1⟩) n r) (idxV i) (I o) m) (Q_p cap 1 (.tuple ⟨[]⟩) (X7s s' b i o yl ws)):=fun x7 hx=>by
  delta Q49 Q D qc qa B Z qe qp A;refine Xk (fun hb=>?_) (fun hb=>?_)
  ·rw [hb] at hx;have hx:=hx.symm;simp only [Bool.and_eq_true,decide_eq_true_eq,Option.isNone_iff_eq_none] at hx;obtain ⟨rfl,rfl⟩:=hx;simp only [Xh,X9,X3,ldh,ldy];refine h.bsl (cs:=yl) (by
    match yl,hy6 with
    | [y0,y1,y2,y3,y4,y5],_=>rfl) (by decide) fun b2 m1 k1=>?_
   have k1:W c m0 φ s cap m1 φ s' ((b2,0,(yl.map Cl.v).map Cl.raw) :: ts):=by
    rw [List.map_map,show (Cl.raw ∘ Cl.v)=id from rfl,List.map_id];exact k1
   refine k1.apk hc hl kt11 (by omega) hf (sz:=6) rfl (by rw [List.length_map]; exact hy6) (by
    rw [List.all_map];exact hy1) (X2t hyt) (by decide) fun cap1 m2 φ1 hc1 _ k2=>?_
   exact nb_9 k2 hc1 hbw hn hr h0 hle hwl d (by unfold X7s; simp)
  ·rw [hb] at hx;simp only [Xxh,X3,e1];have h8:∀ x8:Bool,x8=(i.isSome && decide (o ≠ 0))->Res c m0 φ s (Q4a (d6 d) (.bool x8) (pt (φ [11,0]).b (b * 6) (φ [11,0]).ver) (idxV i) (pt by' 0 0) (pt c.P 0 0) (.slice (some ⟨bw,0,some 1⟩) n r) m) (Q_p cap 1 (.tuple ⟨[]⟩) (X7s s' b i o yl ws)):=fun x8 hx8=>by
    delta Q4a Q D qc qa T Z Y A qf qv;refine Xk (fun hb=>?_) (fun hb=>?_)
    ·rw [hb] at hx8;have hx8:=hx8.symm;simp only [Bool.and_eq_true,decide_eq_true_eq] at hx8;obtain ⟨g1,g2⟩:=hx8;obtain ⟨j,rfl⟩:=Option.isSome_iff_exists.mp g1;have hj:=hi j rfl;obtain ⟨l2,a1,a2,a3⟩:=q5 (by omega);have ixj:Xa 6 (slV (φ [b * 6 + 4,11,0]) (nOf s'.X [11,0] (b * 6 + 4)) (rowL 18)) (idxV (some j))=some (pt (φ [b * 6 + 4,11,0]).b (j * 6) (φ [b * 6 + 4,11,0]).ver):=X3e _ a3 _ 6 j .i64 hj;have hend:=row_end (sz:=rowL 18) hj;have hend:j * 6 + 6 <= l2.length:=by rw [a2]; exact hend
     simp only [Xh,X9,X3,ldh,ldy,ixj];refine h.stn (k:=[b * 6 + 4,11,0]) a1 (X2d kt11 hf) hy6 hend hy1 (fun e=>by injection e with e1 e2; cases e2) (fun q y hy=>?_) fun m1 k1=>?_
     ·have hq:q < 6:=by rw [<- hy6]; exact (List.getElem?_eq_some_iff.mp hy).1
      rw [fd_row (r:=18) (sz:=6) rfl j q hq];exact X2t hyt q (.v y) (by rw [List.getElem?_map,hy]; rfl)
     ·exact nb_9 k1 (Nat.le_succ _) hbw hn hr h0 hle hwl d (by unfold X7s; dsimp only; rw [if_neg g2])
    ·rw [hb] at hx8;simp only [Xnn,X3];refine Xk (fun hb2=>?_) (fun hb2=>?_)
     ·rw [Option.isNone_iff_eq_none] at hb2;subst hb2;have ho:o ≠ 0:=fun e=>by subst e; simp at hx
      try simp only [Xh,X9,X3,Nat.zero_add]
      refine h.str1 (o:=16) (x:=.bool true) rfl rfl (by omega) (.inr (by omega)) (show okc (some Fd.b) (.v (.bool true)) from ok_b true) fun m1 k1=>?_;have e:X7s s' b none o yl ws=s'.sto [0] 16 [.bool true]:=by unfold X7s; simp [ho]
      rw [e];exact k1.retp (Nat.le_succ _)
     ·cases i with
      | none=>simp at hb2
      | some j =>
       have ho:o=0:=by
        simp at hx8;exact hx8
       exact nb_9 h (Nat.le_succ _) hbw hn hr h0 hle hwl d (by unfold X7s; dsimp only; rw [if_pos ho])
   cases i with
   | none =>
    simp only [Option.isSome_none,X6];exact h8 false rfl
   | some j =>
    simp only [Option.isSome_some,X7,e1,X3];exact h8 _ (by simp)
 by_cases ho:o=0
 ·rw [decide_eq_true ho,X7];simp only [Xnn,X3];exact hold _ (by grind)
 ·rw [decide_eq_false ho,X6];exact hold false (by grind)
variable {c:Cx} {m0 m:Mem} {φ0 φ:Phi} {s0 s s':PSt} {cap δ:Nat} {ts:List Tmp} {x:Option Rs} {Q:Value->Nat->Phi->PSt->Prop} {v:Value} {cu:Cu}
theorem X7h (p:Nat->Bool) (sz f:Nat):∀ n i j,Xay p sz f n i=some j->j < i + n
 | 0,i,j,h=>by cases h
 | n + 1,i,j,h=>by
  unfold Xay at h;split at h
  ·cases h; omega
  ·have:=X7h p sz f n (i + 1) j h;omega
theorem PS.rowv (h:PS c cap m φ s) (hk:s.X k=some (.c l)) (hr:kt k=some r) (hs:rowL r=sz) (hl:l.length=N * sz) (hnl:∀ q,q < sz->∀ r',(rowT r)[q]? ≠ some (.l r')) {i:Nat} (hi:i < N) :
  ((cells φ k l).drop (i * sz)).take sz=(List.range sz).map (fun q=>vOf s.X k (i * sz + q))/\∀ q,q < sz->okc ((rowT r)[q]?) (.v (vOf s.X k (i * sz + q))):=by
 have he:=row_end (sz:=sz) hi;have key:∀ q,q < sz->(cells φ k l)[i * sz + q]?=some (vOf s.X k (i * sz + q))/\okc ((rowT r)[q]?) (.v (vOf s.X k (i * sz + q))):=fun q hq=>by
  obtain ⟨d,d1,d2⟩:=h.wt.get hk hr (o:=i * sz + q) (by omega);rw [fd_row hs i q hq] at d2;cases d with
  | s n z =>
   exfalso;cases hf:(rowT r)[q]? with
   | none=>rw [hf] at d2; exact d2
   | some g =>
    rw [hf] at d2;cases g with
    | l r'=>exact hnl q hq r' hf
    | _=>exact d2
  | v y =>
   have e:vOf s.X k (i * sz + q)=y:=by unfold vOf; rw [X6i hk,d1]; rfl
   rw [e,Xm,d1];exact ⟨rfl,d2⟩
 refine ⟨?_,fun q hq=>(key q hq).2⟩;apply List.ext_getElem?;intro q;rw [List.getElem?_take,List.getElem?_map];by_cases hq:q < sz
 ·rw [if_pos hq,List.getElem?_drop,(key q hq).1,List.getElem?_range hq];rfl
 ·rw [if_neg hq,List.getElem?_eq_none (by grind)];rfl
abbrev peV (z0 z1:Int) (t2 t3:Str) (b4 b5:Bool):List Value:=[.int .u32 z0,.int .u32 z1,sv t2,sv t3,.bool b4,.bool b5]
theorem Xpu (h2:t2.length <= SB) (h3:t3.length <= SB):okL (rowT 18) ((peV z0 z1 t2 t3 b4 b5).map .v):=
 And.intro (ok_i _ _) (And.intro (ok_i _ _) (And.intro (ok_s h2) (And.intro (ok_s h3) (And.intro (ok_b _) (And.intro (ok_b _) trivial)))))
theorem pe_row {f:Nat->Value} (h:∀ q,q < 6->okc ((rowT 18)[q]?) (.v (f q))):∃ z0 z1 t2 t3 b4 b5,(List.range 6).map f=peV z0 z1 t2 t3 b4 b5/\t2.length <= SB/\t3.length <= SB:=by
 obtain ⟨z0,e0⟩:=(h 0 (by omega):∃ n,f 0=.int .u32 n)
 obtain ⟨z1,e1⟩:=(h 1 (by omega):∃ n,f 1=.int .u32 n)
 obtain ⟨t2,e2,l2⟩:=(h 2 (by omega):∃ t:Str,f 2=sv t/\t.length <= SB)
 obtain ⟨t3,e3,l3⟩:=(h 3 (by omega):∃ t:Str,f 3=sv t/\t.length <= SB)
 obtain ⟨b4,e4⟩:=(h 4 (by omega):∃ b,f 4=.bool b)
 obtain ⟨b5,e5⟩:=(h 5 (by omega):∃ b,f 5=.bool b)
 refine ⟨z0,z1,t2,t3,b4,b5,?_,l2,l3⟩;show [f 0,f 1,f 2,f 3,f 4,f 5]=_;rw [e0,e1,e2,e3,e4,e5]
abbrev nbW:Str:=[110,101,105,103,104,98,111,114]
abbrev nbK:List Str:=[[97,115],[114,111,117,116,101,45,109,97,112],[99,108,105,101,110,116],[110,101,120,116,45,104,111,112,45,115,101,108,102]]
def nbR (c:Cx) (s:PSt) (b:Nat) (a:Nat) (i:Option Nat) (o:Nat) (y:List Value):PSt:=
 let n:=Xb c s.cu 1 4294967295;let g:=X17 c s.cu;let p:=oneC c g.2 [[105,110],[111,117,116]];let ws:List Str:=[nbW,X24 a]
 if o=0 then X7s (s.at n.2) b i o [u32 a,.int .u32 n.1,sv [],sv [],.bool false,.bool false] (ws ++ [[97,115]])
 else if o=1 then (if p.1=0 then X7s (s.at p.2) b i o (y.set 2 (sv g.1)) (ws ++ [[114,111,117,116,101,45,109,97,112],[105,110]]) else X7s (s.at p.2) b i o (y.set 3 (sv g.1)) (ws ++ [[114,111,117,116,101,45,109,97,112],[111,117,116]]))
 else if o=2 then X7s s b i o (y.set 4 (.bool true)) (ws ++ [[99,108,105,101,110,116]])
 else X7s s b i o (y.set 5 (.bool true)) (ws ++ [[110,101,120,116,45,104,111,112,45,115,101,108,102]])
theorem Xl4 (a:Nat) (ha:a < 4294967296):(X24 a).length <= 65536:=Nat.le_trans (X9s a ha) (by decide)
theorem nb_5 (hc:cap <= 8589934592) {ba a:Nat} (ho:o < 4) (hkw:nbK[o]?=some kw) (ha:a < 4294967296) (h2:t2.length <= SB) (h3:t3.length <= SB) (h:W c m0 φ s cap m φ s' [(bw,0,[nbW,X24 a,kw].map sv),(by',0,peV z0 z1 t2 t3 b4 b5),(ba,0,[u32 a])]) (hl:s'.X [11,0]=some (.c l)) (hll:b * 6 + 6 <= l.length) (hi:∀ j,i=some j->j < nOf s'.X [11,0] (b * 6 + 4)) (d:Nat) :
  Res c m0 φ s (Q7a (d6 d) (I o) (pt ba 0 0) (pt c.C 0 0) (pt by' 0 0) (idxV i) (pt (φ [11,0]).b (b * 6) (φ [11,0]).ver) (pt c.P 0 0) (.slice (some ⟨bw,0,some 1⟩) 3 1) m) (Q_p cap 1 (.tuple ⟨[]⟩) (nbR c s' b a i o (peV z0 z1 t2 t3 b4 b5))):=by
 have hal:=Xl4 a ha;have e0:bin .eql true true .int (I o) (.int .i64 0)=some (.bool (decide (o=0))):=X3x o 0;have e1:bin .eql true true .int (I o) (.int .i64 1)=some (.bool (decide (o=1))):=X3x o 1;have e2:bin .eql true true .int (I o) (.int .i64 2)=some (.bool (decide (o=2))):=X3x o 2;have lda:∀ m' (s1:PSt) t1 t2,W c m0 φ s cap m' φ s1 [t1,t2,(ba,0,[u32 a])]->X8 false 1 (pt ba 0 0) m'=some (u32 a):=fun m' s1 t1 t2 w=>w.ld (b:=ba) (r:=0) (o:=0) (cs:=[u32 a]) (by simp) rfl;have wl:∀ w:Str,w.length <= 65536->∀ x ∈ [nbW,X24 a,w],x.length <= 65536:=fun w hw x hx=>by
  simp only [List.mem_cons,List.not_mem_nil,or_false] at hx;rcases hx with rfl | rfl | rfl
  ·decide
  ·exact hal
  ·exact hw
 have wl4:∀ w w':Str,w.length <= 65536->w'.length <= 65536->∀ x ∈ [nbW,X24 a,w,w'],x.length <= 65536:=fun w w' hw hw' x hx=>by
  simp only [List.mem_cons,List.not_mem_nil,or_false] at hx;rcases hx with rfl | rfl | rfl | rfl
  ·decide
  ·exact hal
  ·exact hw
  ·exact hw'
 delta Q7a L F C qj D qi P B T qt qg qp qk A qf E;unfold nbR;dsimp only;simp only [e0,e1,e2,X3];refine Xk (fun hb=>?_) (fun hb=>?_)
 ·have hb:=of_decide_eq_true hb;rw [if_pos hb];subst hb;cases hkw;simp only [lda m s' _ _ h,X3];refine h.cl (X18 h.ps 1 4294967295 4294967295 rfl (by omega) d) fun m1 k1=>?_;have eb:∀ z:Int,Xg Qgs [(0,1),(1,1),(2,1),(3,1),(4,1),(5,1)] [(0,u32 a),(1,.int .u32 z)]=some (.agg ⟨peV a z [] [] false false⟩):=fun z=>Eq.trans rfl rfl;simp only [lda m1 _ _ _ k1,X1a,Bool.and_true,Xr,Xat c _ 1 4294967295 (by omega),X4,eb,X3];refine k1.sto (l1:=[_]) (o:=0) (y:=.agg ⟨peV a (Xb c s'.cu 1 4294967295).1 [] [] false false⟩) (cs':=peV a (Xb c s'.cu 1 4294967295).1 [] [] false false) rfl rfl (by show 0 + 6 <= 6; omega) rfl fun m2 k2=>?_;exact nb_6 hc k2 hl hll hi (by simp) rfl (Xpu (Nat.zero_le _) (Nat.zero_le _)) rfl (bw:=bw) (ws:=[nbW,X24 a,[97,115]]) (by simp) rfl (by omega) (by simp) (by simp) (wl _ (by decide)) d
 rw [if_neg (of_decide_eq_false hb)];refine Xk (fun hb=>?_) (fun hb=>?_)
 ·have hb:=of_decide_eq_true hb;rw [if_pos hb];subst hb;cases hkw;have hnm:=X3i h.ps;refine h.cl (X38 h.ps (d + 1)) fun m1 k1=>?_;refine k1.bsl (cs:=[[105,110],[111,117,116]].map sv) rfl (by decide) fun bs m2 k2=>?_;refine k2.cl (X6d k2.ps (k2.slx (ws:=[[105,110],[111,117,116]]) (List.mem_cons_self ..)) (by simp) (d + 3)) fun m3 k3=>?_;rw [X2f] at k3 ⊢;have ez:bin .eql true true .int (I (oneC c (X17 c s'.cu).2 [[105,110],[111,117,116]]).1) (.int .i64 0)=some (.bool (decide ((oneC c (X17 c s'.cu).2 [[105,110],[111,117,116]]).1=0))):=X3x _ 0;simp only [ez,X3];have k3:=k3.tl;generalize hS:(s'.at (X17 c s'.cu).2).at (oneC c (X17 c s'.cu).2 [[105,110],[111,117,116]]).2=S at k3;have hSX:S.X=s'.X:=by rw [<- hS]; rfl
  have app:∀ (w:Str) (m':Mem),W c m0 φ s cap m' φ S [(bw,0,[nbW,X24 a,[114,111,117,116,101,45,109,97,112]].map sv),(by',0,peV z0 z1 t2 t3 b4 b5),(ba,0,[u32 a])] ->
    ∃ b2 m2 x31 m1,X5 Q4 [.string ⟨#[]⟩] 1 1 [(0,sv w)] m'=some (x31,m1)/\apS Q4 1 16 (.slice (some ⟨bw,0,some 1⟩) 3 1) x31 m1=some (.slice (some ⟨b2,0,some 1⟩) 4 0,m2)/\W c m0 φ s cap m2 φ S [(b2,0,[nbW,X24 a,[114,111,117,116,101,45,109,97,112],w].map sv),(by',0,peV z0 z1 t2 t3 b4 b5),(ba,0,[u32 a])]:=fun w m' k'=>by
   obtain ⟨b1,m2,e2,k2⟩:=k'.bslE (T:=Q4) (n:=1) (sz:=1) (zero:=[.string ⟨#[]⟩]) (parts:=[(0,sv w)]) (cs:=[w].map sv) rfl (by decide);obtain ⟨ty,hb⟩:=k2.at' (bw,0,[nbW,X24 a,[114,111,117,116,101,45,109,97,112]].map sv) (by simp);have e:=Xhq (e:=Q4) (ws1:=[nbW,X24 a,[114,111,117,116,101,45,109,97,112]].map sv) hb rfl (k2.slx (ws:=[w]) (List.mem_cons_self ..)).sl (by simp) (by simp);refine ⟨m2.next,_,_,m2,e2,e,?_⟩;have k3:=k2.push ([nbW,X24 a,[114,111,117,116,101,45,109,97,112]].map sv ++ [w].map sv) (some (2 * Q4));exact k3.sub (List.Sublist.cons_cons _ (List.Sublist.cons _ (List.Sublist.cons _ (List.Sublist.refl _))))
  refine Xk (fun hb=>?_) (fun hb=>?_)
  ·rw [if_pos (of_decide_eq_true hb)];obtain ⟨b2,m4,x31,m5,q1,q2,k4⟩:=app [105,110] m3 k3;have q1:X5 Q4 [.string ⟨#[]⟩] 1 1 [(0,.string ⟨#[105,110]⟩)] m3=some (x31,m5):=q1;simp only [X1c] at q1 ⊢;rw [q1,X4,q2,X4];simp only [X9,X3,Nat.zero_add];refine k4.sto (l1:=[_]) (o:=2) (y:=sv (X17 c s'.cu).1) (cs':=peV z0 z1 (X17 c s'.cu).1 t3 b4 b5) rfl rfl (by show 2 + 1 <= 6; omega) rfl fun m6 k6=>?_;have:=nb_6 hc (o:=1) (i:=i) (yl:=peV z0 z1 (X17 c s'.cu).1 t3 b4 b5) k6 (by rw [hSX]; exact hl) hll (by rw [hSX]; exact hi) (by':=by') (by simp) rfl (Xpu (Nat.le_trans hnm (by decide)) h3) rfl (bw:=b2) (n:=4) (r:=0) (ws:=[nbW,X24 a,[114,111,117,116,101,45,109,97,112],[105,110]]) (by simp) rfl (by omega) (by simp) (by simp) (wl4 _ _ (by decide) (by decide)) d;rw [<- hS] at this;exact this
  ·rw [if_neg (of_decide_eq_false hb)];obtain ⟨b2,m4,x31,m5,q1,q2,k4⟩:=app [111,117,116] m3 k3;simp only [X1c] at q1 ⊢;rw [q1,X4,q2,X4];simp only [X9,X3,Nat.zero_add];refine k4.sto (l1:=[_]) (o:=3) (y:=sv (X17 c s'.cu).1) (cs':=peV z0 z1 t2 (X17 c s'.cu).1 b4 b5) rfl rfl (by show 3 + 1 <= 6; omega) rfl fun m6 k6=>?_;have:=nb_6 hc (o:=1) (i:=i) (yl:=peV z0 z1 t2 (X17 c s'.cu).1 b4 b5) k6 (by rw [hSX]; exact hl) hll (by rw [hSX]; exact hi) (by':=by') (by simp) rfl (Xpu h2 (Nat.le_trans hnm (by decide))) rfl (bw:=b2) (n:=4) (r:=0) (ws:=[nbW,X24 a,[114,111,117,116,101,45,109,97,112],[111,117,116]]) (by simp) rfl (by omega) (by simp) (by simp) (wl4 _ _ (by decide) (by decide)) d;rw [<- hS] at this;exact this
 rw [if_neg (of_decide_eq_false hb)];refine Xk (fun hb=>?_) (fun hb=>?_)
 ·have hb:=of_decide_eq_true hb;rw [if_pos hb];subst hb;cases hkw;simp only [X9,X3,Nat.zero_add];refine h.sto (l1:=[_]) (o:=4) (y:=.bool true) (cs':=peV z0 z1 t2 t3 true b5) rfl rfl (by show 4 + 1 <= 6; omega) rfl fun m6 k6=>?_;exact nb_6 hc (o:=2) (i:=i) (yl:=peV z0 z1 t2 t3 true b5) k6 hl hll hi (by':=by') (by simp) rfl (Xpu h2 h3) rfl (bw:=bw) (n:=3) (r:=1) (ws:=[nbW,X24 a,[99,108,105,101,110,116]]) (by simp) rfl (by omega) (by simp) (by simp) (wl _ (by decide)) d
 ·rw [if_neg (of_decide_eq_false hb)];rename_i hb0 hb1;have ho3:o=3:=by
   have h0:=of_decide_eq_false hb0;have h1:=of_decide_eq_false hb1;have h2:=of_decide_eq_false hb;omega
  subst ho3;cases hkw;simp only [X9,X3,Nat.zero_add];refine h.sto (l1:=[_]) (o:=5) (y:=.bool true) (cs':=peV z0 z1 t2 t3 b4 true) rfl rfl (by show 5 + 1 <= 6; omega) rfl fun m6 k6=>?_;exact nb_6 hc (o:=3) (i:=i) (yl:=peV z0 z1 t2 t3 b4 true) k6 hl hll hi (by':=by') (by simp) rfl (Xpu h2 h3) rfl (bw:=bw) (n:=3) (r:=1) (ws:=[nbW,X24 a,[110,101,120,116,45,104,111,112,45,115,101,108,102]]) (by simp) rfl (by omega) (by simp) (by simp) (wl _ (by decide)) d
theorem Xvm (c:Cx) (cu:Cu) (w:Bool):(X35 c cu w).1 <= 32:=by
 have hz:∀ x:Nat,lz32 x <= 32:=fun x=>Nat.sub_le _ _;unfold X35;generalize (if w=true then 4294967295 - (X1e c cu).1 else (X1e c cu).1)=x;unfold Xnj;split
 ·rename_i n hn;split at hn
  ·cases hn; exact hz _
  ·cases hn
 ·exact Nat.zero_le _
theorem Xbd (c:Cx) (s:PSt):X2s c s=(let a:=X1e c s.cu
  let b:=nOf s.X [0] 11 - 1;let i:=Xfz s.X [11,0] (b * 6 + 4) 6 0 (a.1:Int);let o:=oneC c a.2 nbK
  nbR c (s.at o.2) b a.1 i o.1 (match i with | some j=>(List.range 6).map fun q=>vOf s.X [b * 6 + 4,11,0] (j * 6 + q) | none=>peV 0 0 [] [] false false)):=by
 unfold X2s nbR X7s;dsimp only;generalize oneC c (X1e c s.cu).2 nbK=O;generalize Xfz s.X [11,0] ((nOf s.X [0] 11 - 1) * 6 + 4) 6 0 ((X1e c s.cu).1:Int)=i;by_cases h0:O.1=0
 ·simp only [if_pos h0];cases i <;> rfl
 ·by_cases h1:O.1=1
  ·simp only [if_neg h0,if_pos h1];by_cases h2:(oneC c (X17 c (s.at O.2).cu).2 [[105,110],[111,117,116]]).1=0
   ·have h2':(oneC c (X17 c O.2).2 [[105,110],[111,117,116]]).1=0:=h2;simp only [if_pos h2,if_pos h2'];cases i <;> rfl
   ·have h2':¬ (oneC c (X17 c O.2).2 [[105,110],[111,117,116]]).1=0:=h2;simp only [if_neg h2,if_neg h2'];cases i <;> rfl
  ·by_cases h2:O.1=2
   ·simp only [if_neg h0,if_neg h1,if_pos h2];cases i <;> rfl
   ·simp only [if_neg h0,if_neg h1,if_neg h2];cases i <;> rfl
theorem Xim (h:PS c cap m φ s) (hc:cap <= 8589934592) (hn:0 < nOf s.X [0] 11) (d:Nat):PaD c cap 1 m φ s (TA (d + 7) Q87 [pt c.P 0 0,pt c.C 0 0,pt (φ [11,0]).b ((nOf s.X [0] 11 - 1) * 6) (φ [11,0]).ver] m) (.tuple ⟨[]⟩) (X2s c s):=by
 rw [Xbd];dsimp only;refine h.pad (X5x _ _ _ _ _) fun m0 k=>?_;obtain ⟨l,hl,_,hll,_,_,_⟩:=k.ps.last hc (f:=11) (r':=16) (sz:=6) rfl (by omega) rfl hn;generalize nOf s.X [0] 11 - 1=b at hll ⊢;have hf:fdAt 16 (b * 6 + 4)=some (.l 18):=by rw [fd_row (r:=16) (sz:=6) rfl b 4 (by omega)]; rfl
 have ha:=Xa1 c s.cu;delta Q3g C T S;refine k.cl (X4h k.ps (d + 1)) fun m1 k1=>?_;generalize hA:X1e c s.cu=A at k1 ha ⊢;refine k1.new fun ba m2 k2=>?_;refine k2.sto (l1:=[]) (o:=0) (y:=u32 A.1) (cs':=[u32 A.1]) rfl rfl (by show 0 + 1 <= 1; omega) rfl fun m3 k3=>?_;have hl3:(s.at A.2).X [11,0]=some (.c l):=hl;obtain ⟨_,_,ld3,_,q5⟩:=k3.ps.list hl3 kt11 (o:=b * 6 + 4) (by omega) hf;delta Qao C qa;have hba:=(k3.lt (ba,0,[u32 A.1]) (List.mem_cons_self ..)).2;have hga:=k3.at' (ba,0,[u32 A.1]) (List.mem_cons_self ..);have ix:=c_ixE k3.ps hc hl3 kt11 (o:=b * 6 + 4) (by omega) hf (A.1:Int) hba hga (d + 4);have ix:TA (d + 6) Q1i [slV (φ [b * 6 + 4,11,0]) (nOf s.X [11,0] (b * 6 + 4)) (rowL 18),.func (.func Q1m) ⟨[]⟩ ⟨[pt ba 0 0]⟩] m3=some (idxV (Xfz s.X [11,0] (b * 6 + 4) 6 0 (A.1:Int)),m3):=ix;have ld3:X8 false 1 (pt (φ [11,0]).b (b * 6 + 4) (φ [11,0]).ver) m3=some (slV (φ [b * 6 + 4,11,0]) (nOf s.X [11,0] (b * 6 + 4)) (rowL 18)):=ld3;simp only [Xh,X9,X3,ld3,ix,X4];have hi:∀ j,Xfz s.X [11,0] (b * 6 + 4) 6 0 (A.1:Int)=some j->j < nOf s.X [11,0] (b * 6 + 4):=fun j hj=>by
  have:=X7h _ _ _ _ _ _ hj;omega
 generalize Xfz s.X [11,0] (b * 6 + 4) 6 0 (A.1:Int)=i at hi ⊢;delta Qap F C za E;refine k3.bsl (cs:=nbK.map sv) rfl (by decide) fun bs m4 k4=>?_;have lt:=Xg0 c A.2 nbK (by simp);refine k4.cl (X6d k4.ps (k4.slx (ws:=nbK) (List.mem_cons_self ..)) (by simp) (d + 3)) fun m5 k5=>?_;rw [X2f] at k5 ⊢;generalize hO:oneC c A.2 nbK=O at k5 lt ⊢;have lt:O.1 < 4:=lt;have k5:=k5.tl;delta Qaq S;refine k5.new fun by' m6 k6=>?_;have hl6:((s.at A.2).at O.2).X [11,0]=some (.c l):=hl;obtain ⟨kw,hkw⟩:∃ kw,nbK[O.1]?=some kw:=⟨_,List.getElem?_eq_getElem (by omega)⟩
 -- behind the old cells
 have fin:∀ (m':Mem) (z0 z1:Int) (t2 t3:Str) (b4 b5:Bool),t2.length <= SB->t3.length <= SB->(match i with | some j=>(List.range 6).map fun q=>vOf s.X [b * 6 + 4,11,0] (j * 6 + q) | none=>peV 0 0 [] [] false false)=peV z0 z1 t2 t3 b4 b5 ->
   W c m0 φ s cap m' φ ((s.at A.2).at O.2) [(by',0,peV z0 z1 t2 t3 b4 b5),(ba,0,[u32 A.1])] ->
   Res c m0 φ s (Q4b (d6 d) (pt ba 0 0) (I O.1) (pt c.C 0 0) (pt by' 0 0) (idxV i) (pt (φ [11,0]).b (b * 6) (φ [11,0]).ver) (pt c.P 0 0) m') (Q_p cap 1 (.tuple ⟨[]⟩) (nbR c (s.at O.2) b A.1 i O.1 (match i with | some j=>(List.range 6).map fun q=>vOf s.X [b * 6 + 4,11,0] (j * 6 + q) | none=>peV 0 0 [] [] false false))):=fun m' z0 z1 t2 t3 b4 b5 h2 h3 hy k'=>by
  rw [hy];delta Q4b L F C qj qi P Y qy za E;have lda:X8 false 1 (pt ba 0 0) m'=some (u32 A.1):=k'.ld (r:=0) (o:=0) (cs:=[u32 A.1]) (by simp) rfl;simp only [lda,X3];refine k'.bsl (cs:=nbK.map sv) rfl (by decide) fun bk m7 k7=>?_;have ixk:Xa 1 (.slice (some ⟨bk,0,some 1⟩) 4 1) (I O.1)=some (pt bk (O.1 * 1) 0):=X3e ⟨bk,0,1⟩ (by simp) 4 1 O.1 .i64 lt;have ldk:X8 false 1 (pt bk (O.1 * 1) 0) m7=some (sv kw):=k7.ld (List.mem_cons_self ..) (by grind);have ct:TA (d + 6) Q7b [u32 A.1] m7=some (sv (X24 A.1),m7):=c_addrText A.1 ha (d + 5) m7;simp only [ixk,X3,ldk,ct,X4,X1p,Bool.and_true,Xr];have k7:=k7.tl;refine k7.bsl (cs:=[nbW,X24 A.1,kw].map sv) rfl (by decide) fun bw m8 k8=>?_;exact nb_5 hc (s':=(s.at A.2).at O.2) lt hkw ha h2 h3 k8 hl6 hll hi d
 delta Qar D qc qa T Y A;simp only [Xxh,X3];cases i with
 | none =>
  simp only [Option.isSome_none,X6];exact fin m6 0 0 [] [] false false (Nat.zero_le _) (Nat.zero_le _) rfl k6
 | some j =>
  simp only [Option.isSome_some,X7];have hj:=hi j rfl;obtain ⟨l2,a1,a2,a3⟩:=q5 (by show nOf s.X [11,0] (b * 6 + 4) ≠ 0; omega);obtain ⟨_,_,ld6,_,_⟩:=k6.ps.list hl6 kt11 (o:=b * 6 + 4) (by omega) hf;have ld6:X8 false 1 (pt (φ [11,0]).b (b * 6 + 4) (φ [11,0]).ver) m6=some (slV (φ [b * 6 + 4,11,0]) (nOf s.X [11,0] (b * 6 + 4)) (rowL 18)):=ld6;have ixj:Xa 6 (slV (φ [b * 6 + 4,11,0]) (nOf s.X [11,0] (b * 6 + 4)) (rowL 18)) (idxV (some j))=some (pt (φ [b * 6 + 4,11,0]).b (j * 6) (φ [b * 6 + 4,11,0]).ver):=X3e _ a3 _ 6 j .i64 hj;have a16:((s.at A.2).at O.2).X [b * 6 + 4,11,0]=some (.c l2):=a1;obtain ⟨v1,v2⟩:=k6.ps.rowv (sz:=6) (N:=nOf s.X [11,0] (b * 6 + 4)) a16 (X2d kt11 hf) rfl a2 (fun q hq r'=>by
   have:q=0\/q=1\/q=2\/q=3\/q=4\/q=5:=by omega
   rcases this with rfl | rfl | rfl | rfl | rfl | rfl <;> (intro e; cases e)) (i:=j) hj
  obtain ⟨ty,hblk⟩:=k6.ps.blk a16 (fun e=>by grind) (fun e=>by grind);have hend:=row_end (sz:=rowL 18) hj;have hend:j * 6 + 6 <= l2.length:=by rw [a2]; exact hend
  have ldr:X8 true 6 (pt (φ [b * 6 + 4,11,0]).b (j * 6) (φ [b * 6 + 4,11,0]).ver) m6=some (.agg ⟨(List.range 6).map (fun q=>vOf s.X [b * 6 + 4,11,0] (j * 6 + q))⟩):=Xv hblk (by rw [X10]; exact hend) v1;obtain ⟨z0,z1,t2,t3,b4,b5,hv,h2,h3⟩:=pe_row v2;have hv:(List.range 6).map (fun q=>vOf s.X [b * 6 + 4,11,0] (j * 6 + q))=peV z0 z1 t2 t3 b4 b5:=hv;simp only [Xh,X9,X3,ld6,ixj,ldr];rw [hv];refine k6.sto (l1:=[]) (o:=0) (y:=.agg ⟨peV z0 z1 t2 t3 b4 b5⟩) (cs':=peV z0 z1 t2 t3 b4 b5) rfl rfl (by show 0 + 6 <= 6; omega) rfl fun m7 k7=>?_;have:=fin m7 z0 z1 t2 t3 b4 b5 h2 h3 hv k7;simp only [hv] at this;exact this
theorem Xz4 (h:PS c cap m φ s) (hc:cap <= 8589934592) (hn:0 < nOf s.X [0] 11) (d:Nat):PaD c cap 1 m φ s (TA (d + 9) Q94 [pt c.P 0 0,pt c.C 0 0] m) (.tuple ⟨[]⟩) (bgpC c s):=by
 refine h.pad (X9g _ _ _ _) fun m0 k=>?_;obtain ⟨l,hl,_,hll,ld,sb,ix⟩:=k.ps.last hc (f:=11) (r':=16) (sz:=6) rfl (by omega) rfl hn;delta Q6t L F C qj H D qi qc P qr qa B N T Z S Y qw qt qe qp A qd E qo qv;simp only [Xh,X9,X3,Nat.zero_add,ld,X2y,sb,ix];have hw:=X2w k.ps;refine k.cl (X2x k.ps (d + 6)) fun m1 k1=>?_;unfold bgpC;dsimp only;have e0:nOf (s.at (Xf c s.cu).2).X [0] 11=nOf s.X [0] 11:=rfl;rw [e0];have hn1:0 < nOf (s.at (Xf c s.cu).2).X [0] 11:=hn;generalize hb':nOf s.X [0] 11 - 1=b at hll ⊢;have hb1:nOf (s.at (Xf c s.cu).2).X [0] 11 - 1=b:=hb';generalize (Xf c s.cu).1=w at hw ⊢;have hl1:(s.at (Xf c s.cu).2).X [11,0]=some (.c l):=hl;generalize s.at (Xf c s.cu).2=s1 at k1 hl1 hn1 hb1 ⊢
 try simp only [X1c,Qw,X3]
 refine Xk (fun hb=>?_) (fun hb=>?_)
 ·rw [if_pos (of_decide_eq_true hb)];refine k1.cl (X4h k1.ps (d + 3)) fun m2 k2=>?_
  try simp only [Xh,X9,X3]
  refine k2.st1 hl1 kt11 (by omega) rfl rfl (by decide) (by rw [fd_row (r:=16) (sz:=6) rfl b 2 (by omega)]; exact ok_i _ _) fun m3 l3 hl3 hn3 k3=>?_;exact (k3.ins1 hw (d + 6) rfl).pd
 rw [if_neg (of_decide_eq_false hb)]
 try simp only [X1c,Qw,X3]
 refine Xk (fun hb=>?_) (fun hb=>?_)
 ·rw [if_pos (of_decide_eq_true hb)];have ha:=Xa1 c s1.cu;refine k1.cl (X4h k1.ps (d + 3)) fun m2 k2=>?_;generalize hA:X1e c s1.cu=A at k2 ha ⊢;refine k2.cl (Xgr k2.ps false (d + 2)) fun m3 k3=>?_;rw [X2f] at k3 ⊢;have hM32:(X35 c A.2 false).1 <= 32:=Xvm c A.2 false;generalize hM:X35 c A.2 false=M at k3 hM32 ⊢;have k3:W c m0 φ s cap m3 φ (s1.at M.2) []:=k3;refine k3.cl (Xrg k3.ps A.1 ha (M.1:Int) (d + 5)) fun m4 k4=>?_;have k4:W c m0 φ s cap m4 φ (s1.at (netC c M.2 A.1 (M.1:Int))) []:=k4;refine k4.new fun bp' m5 k5=>?_;refine k5.sto (l1:=[]) (o:=0) (y:=pfx A.1 (M.1:Int)) (cs':=[u32 A.1,I M.1]) rfl rfl (by show 0 + 2 <= 2; omega) rfl fun m6 k6=>?_;have ldp:X8 true 2 (pt bp' 0 0) m6=some (pfx A.1 (M.1:Int)):=k6.lds (o:=0) (List.mem_cons_self ..) (by simp) rfl;have ct:=c_addrPrefixText A.1 ha (M.1:Int) (Xck (by omega)) (d + 6) m6;have ct:TA (d + 8) Qa9 [pfx A.1 (M.1:Int)] m6=some (sv (Xdo A.1 (M.1:Int)),m6):=ct;have hpl:(Xdo A.1 (M.1:Int)).length <= 65536:=by
   have h1:=X9s A.1 ha;have h2:=Xkv (M.1:Int) (Xck (by omega));have e:Xdo A.1 (M.1:Int)=X24 A.1 ++ 47 :: itoa (M.1:Int):=by simp [Xdo]
   rw [e,List.length_append,List.length_cons];omega
  simp only [ldp,X3,ct,X4];refine k6.bsl (cs:=[w,Xdo A.1 (M.1:Int)].map sv) rfl (by decide) fun bw m7 k7=>?_;refine k7.cs (X5d k7.ps (ws:=[w,Xdo A.1 (M.1:Int)]) (k7.slx (List.mem_cons_self ..)) (by simp) (by simp) (by grind) (d + 6)) fun m8 k8=>?_;have k8:=k8.tl;generalize hS:Xz (s1.at (netC c M.2 A.1 (M.1:Int))) [w,Xdo A.1 (M.1:Int)]=S at k8;have hSX:S.X [11,0]=some (.c l):=by
   rw [<- hS];obtain ⟨lr,hr0,_⟩:=k1.ps.wt.root;unfold Xz X1s;have hr1:(s1.at (netC c M.2 A.1 (M.1:Int))).X [0]=some (.c lr):=hr0;dsimp only;rw [NX.set_ne _ _ (by decide),X1b hr1,NX.set_ne _ _ (by decide)];exact hl1
  have hf:fdAt 16 (b * 6 + 3)=some (.l 17):=by rw [fd_row (r:=16) (sz:=6) rfl b 3 (by omega)]; rfl
  obtain ⟨_,_,ld8,_,_⟩:=k8.ps.list hSX kt11 (o:=b * 6 + 3) (by omega) hf;have ldp8:X8 true 2 (pt bp' 0 0) m8=some (pfx A.1 (M.1:Int)):=k8.lds (o:=0) (cs:=[u32 A.1,I M.1]) (List.mem_cons_self ..) (by simp) rfl;simp only [Xh,X9,X3,ld8,ldp8];refine k8.bsl (cs:=[u32 A.1,I M.1]) rfl (by decide) fun b2 m9 k9=>?_;have k9:W c m0 φ s cap m9 φ S ((b2,0,[Cl.v (u32 A.1),.v (I M.1)].map Cl.raw) :: _):=k9;refine k9.apk hc hSX kt11 (by omega) hf (sz:=2) rfl rfl rfl (X2t (And.intro (ok_i _ _) (And.intro (ok_i _ _) trivial))) (by decide) fun cap1 m10 φ1 hc1 _ k10=>?_;exact k10.retp hc1
 rw [if_neg (of_decide_eq_false hb)]
 try simp only [X1c,Qw,X3]
 refine Xk (fun hb=>?_) (fun hb=>?_)
 ·rw [if_pos (of_decide_eq_true hb)];have law:=Xim k1.ps hc hn1 (d + 1);rw [hb1] at law;exact k1.pd law fun cap1 m2 φ1 hc1 k2=>k2.retp hc1
 rw [if_neg (of_decide_eq_false hb)]
 try simp only [X1c,Qw,X3]
 refine Xk (fun hb=>?_) (fun hb=>?_)
 ·rw [if_pos (of_decide_eq_true hb)]
  try simp only [Xh,X9,X3]
  exact k1.red (d + 1) hc hl1 kt11 (by omega) (by rw [fd_row (r:=16) (sz:=6) rfl b 5 (by omega)]; rfl) [111,115,112,102] 4 false
 ·rw [if_neg (of_decide_eq_false hb)];exact (k1.badr 130 (by decide) (d + 6) rfl).pd
end Go.Ab.Sh
end
