/-
  What the functions of the program answer, at every text and every question. No conditions.
-/
import Derived.Test.YtdmfclgfkgmbdaaGreatDoorA2
set_option linter.unusedSimpArgs false
set_option linter.unusedVariables false
set_option maxRecDepth 100000
namespace Go.Ab.Sh
open Go Go.Ab Go.Lib
variable {c:Cx} {m0 m:Mem} {φ0 φ:Phi} {s0 s s':PSt} {cap δ:Nat} {ts:List Tmp} {x:Option Rs} {Q:Value→Nat→Phi→PSt→Prop} {v:Value} {cu:Cu}
theorem X7p (p:Nat→Bool) (sz f:Nat):∀ n i j,Xb4 p sz f n i=some j→j < i + n
 | 0,i,j,h=>by cases h
 | n + 1,i,j,h=>by
  unfold Xb4 at h
  split at h
  ·cases h; omega
  ·have:=X7p p sz f n (i + 1) j h
   omega
theorem PS.rowv (h:PS c cap m φ s) {k:Key} {l:List Cl} {r N sz:Nat} (hk:s.X k=some (.c l)) (hr:kt k=some r) (hs:rowL r=sz) (hl:l.length=N * sz) (hnl:∀ q,q < sz→∀ r',(rowT r)[q]? ≠ some (.l r')) {i:Nat} (hi:i < N) :
  ((cells φ k l).drop (i * sz)).take sz=(List.range sz).map (fun q=>vOf s.X k (i * sz + q))∧∀ q,q < sz→okc ((rowT r)[q]?) (.v (vOf s.X k (i * sz + q))):=by
 have he:=row_end (sz:=sz) hi
 have key:∀ q,q < sz→(cells φ k l)[i * sz + q]?=some (vOf s.X k (i * sz + q))∧okc ((rowT r)[q]?) (.v (vOf s.X k (i * sz + q))):=fun q hq=>by
  obtain ⟨d,d1,d2⟩:=h.wt.get hk hr (o:=i * sz + q) (by omega)
  rw [fd_row hs i q hq] at d2
  cases d with
  | s n z =>
   exfalso
   cases hf:(rowT r)[q]? with
   | none=>rw [hf] at d2; exact d2
   | some g =>
    rw [hf] at d2
    cases g with
    | l r'=>exact hnl q hq r' hf
    | _=>exact d2
  | v y =>
   have e:vOf s.X k (i * sz + q)=y:=by unfold vOf; rw [X8v hk,d1]; rfl
   rw [e,Xv,d1]
   exact ⟨rfl,d2⟩
 refine ⟨?_,fun q hq=>(key q hq).2⟩
 apply List.ext_getElem?
 intro q
 rw [List.getElem?_take,List.getElem?_map]
 by_cases hq:q < sz
 ·rw [if_pos hq,List.getElem?_drop,(key q hq).1,List.getElem?_range hq]
  rfl
 ·rw [if_neg hq,List.getElem?_eq_none (by rw [List.length_range]; omega)]
  rfl
noncomputable abbrev peV (z0 z1:Int) (t2 t3:Str) (b4 b5:Bool):List Value:=[.int .u32 z0,.int .u32 z1,sv t2,sv t3,.bool b4,.bool b5]
theorem Xoc {z0 z1:Int} {t2 t3:Str} {b4 b5:Bool} (h2:t2.length ≤ SB) (h3:t3.length ≤ SB):okL (rowT 18) ((peV z0 z1 t2 t3 b4 b5).map .v):=
 And.intro (ok_i _ _) (And.intro (ok_i _ _) (And.intro (ok_s h2) (And.intro (ok_s h3) (And.intro (ok_b _) (And.intro (ok_b _) trivial)))))
theorem pe_row {f:Nat→Value} (h:∀ q,q < 6→okc ((rowT 18)[q]?) (.v (f q))):∃ z0 z1 t2 t3 b4 b5,(List.range 6).map f=peV z0 z1 t2 t3 b4 b5∧t2.length ≤ SB∧t3.length ≤ SB:=by
 obtain ⟨z0,e0⟩:=(h 0 (by omega):∃ n,f 0=.int .u32 n)
 obtain ⟨z1,e1⟩:=(h 1 (by omega):∃ n,f 1=.int .u32 n)
 obtain ⟨t2,e2,l2⟩:=(h 2 (by omega):∃ t:Str,f 2=sv t∧t.length ≤ SB)
 obtain ⟨t3,e3,l3⟩:=(h 3 (by omega):∃ t:Str,f 3=sv t∧t.length ≤ SB)
 obtain ⟨b4,e4⟩:=(h 4 (by omega):∃ b,f 4=.bool b)
 obtain ⟨b5,e5⟩:=(h 5 (by omega):∃ b,f 5=.bool b)
 refine ⟨z0,z1,t2,t3,b4,b5,?_,l2,l3⟩
 show [f 0,f 1,f 2,f 3,f 4,f 5]=_
 rw [e0,e1,e2,e3,e4,e5]
noncomputable abbrev nbW:Str:=[110,101,105,103,104,98,111,114]
noncomputable abbrev nbK:List Str:=[[97,115],[114,111,117,116,101,45,109,97,112],[99,108,105,101,110,116],[110,101,120,116,45,104,111,112,45,115,101,108,102]]
noncomputable def nbR (c:Cx) (s:PSt) (b:Nat) (a:Nat) (i:Option Nat) (o:Nat) (y:List Value):PSt:=
 let n:=Xf c s.cu 1 4294967295
 let g:=X1i c s.cu
 let p:=oneC c g.2 [[105,110],[111,117,116]]
 let ws:List Str:=[nbW,X2a a]
 if o=0 then X7y (s.at n.2) b i o [u32 a,.int .u32 n.1,sv [],sv [],.bool false,.bool false] (ws ++ [[97,115]])
 else if o=1 then (if p.1=0 then X7y (s.at p.2) b i o (y.set 2 (sv g.1)) (ws ++ [[114,111,117,116,101,45,109,97,112],[105,110]]) else X7y (s.at p.2) b i o (y.set 3 (sv g.1)) (ws ++ [[114,111,117,116,101,45,109,97,112],[111,117,116]]))
 else if o=2 then X7y s b i o (y.set 4 (.bool true)) (ws ++ [[99,108,105,101,110,116]])
 else X7y s b i o (y.set 5 (.bool true)) (ws ++ [[110,101,120,116,45,104,111,112,45,115,101,108,102]])
theorem Xlz (a:Nat) (ha:a < 4294967296):(X2a a).length ≤ 65536:=Nat.le_trans (Xa5 a ha) (by decide)
theorem nb_5 (hc:cap ≤ 8589934592) {l:List Cl} {b o by' ba bw a:Nat} {i:Option Nat} {z0 z1:Int} {t2 t3:Str} {b4 b5:Bool} {kw:Str} (ho:o < 4) (hkw:nbK[o]?=some kw) (ha:a < 4294967296) (h2:t2.length ≤ SB) (h3:t3.length ≤ SB)
  (h:W c m0 φ s cap m φ s' [(bw,0,[nbW,X2a a,kw].map sv),(by',0,peV z0 z1 t2 t3 b4 b5),(ba,0,[u32 a])]) (hl:s'.X [11,0]=some (.c l)) (hll:b * 6 + 6 ≤ l.length) (hi:∀ j,i=some j→j < nOf s'.X [11,0] (b * 6 + 4)) (d:Nat) :
  Res c m0 φ s (Q5q (d6 d) (I o) (pt ba 0 0) (pt c.C 0 0) (pt by' 0 0) (idxV i) (pt (φ [11,0]).b (b * 6) (φ [11,0]).ver) (pt c.P 0 0) (.slice (some ⟨bw,0,some 1⟩) 3 1) m) (Q_p cap 1 (.tuple ⟨[]⟩) (nbR c s' b a i o (peV z0 z1 t2 t3 b4 b5))):=by
 have hal:=Xlz a ha
 have e0:bin .eql true true .int (I o) (.int .i64 0)=some (.bool (decide (o=0))):=X3q o 0
 have e1:bin .eql true true .int (I o) (.int .i64 1)=some (.bool (decide (o=1))):=X3q o 1
 have e2:bin .eql true true .int (I o) (.int .i64 2)=some (.bool (decide (o=2))):=X3q o 2
 have lda:∀ m' (s1:PSt) t1 t2,W c m0 φ s cap m' φ s1 [t1,t2,(ba,0,[u32 a])]→X7 false 1 (pt ba 0 0) m'=some (u32 a):=fun m' s1 t1 t2 w=>w.ld (b:=ba) (r:=0) (o:=0) (cs:=[u32 a]) (by simp) rfl
 have wl:∀ w:Str,w.length ≤ 65536→∀ x ∈ [nbW,X2a a,w],x.length ≤ 65536:=fun w hw x hx=>by
  simp only [List.mem_cons,List.not_mem_nil,or_false] at hx
  rcases hx with rfl | rfl | rfl
  ·decide
  ·exact hal
  ·exact hw
 have wl4:∀ w w':Str,w.length ≤ 65536→w'.length ≤ 65536→∀ x ∈ [nbW,X2a a,w,w'],x.length ≤ 65536:=fun w w' hw hw' x hx=>by
  simp only [List.mem_cons,List.not_mem_nil,or_false] at hx
  rcases hx with rfl | rfl | rfl | rfl
  ·decide
  ·exact hal
  ·exact hw
  ·exact hw'
 unfold Q5q nbR
 dsimp only
 simp only [e0,e1,e2,X4]
 refine Xn (fun hb=>?_) (fun hb=>?_)
 ·have hb:=of_decide_eq_true hb
  rw [if_pos hb]
  subst hb
  cases hkw
  simp only [lda m s' _ _ h,X4]
  refine h.cl (X15 h.ps 1 4294967295 4294967295 rfl (by omega) d) fun m1 k1=>?_
  have eb:∀ z:Int,Xi Qhi [(0,1),(1,1),(2,1),(3,1),(4,1),(5,1)] [(0,u32 a),(1,.int .u32 z)]=some (.agg ⟨peV a z [] [] false false⟩):=fun z=>Eq.trans rfl rfl
  simp only [lda m1 _ _ _ k1,X4x,Bool.and_true,X2c,Xbu c _ 1 4294967295 (by omega),X6,eb,X4]
  refine k1.sto (l1:=[_]) (o:=0) (y:=.agg ⟨peV a (Xf c s'.cu 1 4294967295).1 [] [] false false⟩) (cs':=peV a (Xf c s'.cu 1 4294967295).1 [] [] false false) rfl rfl (by show 0 + 6 ≤ 6; omega) rfl fun m2 k2=>?_
  exact nb_6 hc k2 hl hll hi (by simp) rfl (Xoc (Nat.zero_le _) (Nat.zero_le _)) rfl (bw:=bw) (ws:=[nbW,X2a a,[97,115]]) (by simp) rfl (by omega) (by simp) (by simp) (wl _ (by decide)) d
 rw [if_neg (of_decide_eq_false hb)]
 refine Xn (fun hb=>?_) (fun hb=>?_)
 ·have hb:=of_decide_eq_true hb
  rw [if_pos hb]
  subst hb
  cases hkw
  have hnm:=X35 h.ps
  refine h.cl (X2y h.ps (d + 1)) fun m1 k1=>?_
  refine k1.bsl (cs:=[[105,110],[111,117,116]].map sv) rfl (by decide) fun bs m2 k2=>?_
  refine k2.cl (X6d k2.ps (k2.slx (ws:=[[105,110],[111,117,116]]) (List.mem_cons_self ..)) (by simp) (d + 3)) fun m3 k3=>?_
  rw [X29] at k3 ⊢
  have ez:bin .eql true true .int (I (oneC c (X1i c s'.cu).2 [[105,110],[111,117,116]]).1) (.int .i64 0)=some (.bool (decide ((oneC c (X1i c s'.cu).2 [[105,110],[111,117,116]]).1=0))):=X3q _ 0
  simp only [ez,X4]
  have k3:=k3.tl
  generalize hS:(s'.at (X1i c s'.cu).2).at (oneC c (X1i c s'.cu).2 [[105,110],[111,117,116]]).2=S at k3
  have hSX:S.X=s'.X:=by rw [← hS]; rfl
  have app:∀ (w:Str) (m':Mem),W c m0 φ s cap m' φ S [(bw,0,[nbW,X2a a,[114,111,117,116,101,45,109,97,112]].map sv),(by',0,peV z0 z1 t2 t3 b4 b5),(ba,0,[u32 a])] →
    ∃ b2 m2 x31 m1,X9 Q1 [.string ⟨#[]⟩] 1 1 [(0,sv w)] m'=some (x31,m1)∧apS Q1 1 16 (.slice (some ⟨bw,0,some 1⟩) 3 1) x31 m1=some (.slice (some ⟨b2,0,some 1⟩) 4 0,m2)∧W c m0 φ s cap m2 φ S [(b2,0,[nbW,X2a a,[114,111,117,116,101,45,109,97,112],w].map sv),(by',0,peV z0 z1 t2 t3 b4 b5),(ba,0,[u32 a])]:=fun w m' k'=>by
   obtain ⟨b1,m2,e2,k2⟩:=k'.bslE (T:=Q1) (n:=1) (sz:=1) (zero:=[.string ⟨#[]⟩]) (parts:=[(0,sv w)]) (cs:=[w].map sv) rfl (by decide)
   obtain ⟨ty,hb⟩:=k2.at' (bw,0,[nbW,X2a a,[114,111,117,116,101,45,109,97,112]].map sv) (by simp)
   have e:=Xik (e:=Q1) (ws1:=[nbW,X2a a,[114,111,117,116,101,45,109,97,112]].map sv) hb rfl (k2.slx (ws:=[w]) (List.mem_cons_self ..)).sl (by simp) (by simp)
   refine ⟨m2.next,_,_,m2,e2,e,?_⟩
   have k3:=k2.push ([nbW,X2a a,[114,111,117,116,101,45,109,97,112]].map sv ++ [w].map sv) (some (2 * Q1))
   exact k3.sub (List.Sublist.cons_cons _ (List.Sublist.cons _ (List.Sublist.cons _ (List.Sublist.refl _))))
  refine Xn (fun hb=>?_) (fun hb=>?_)
  ·rw [if_pos (of_decide_eq_true hb)]
   obtain ⟨b2,m4,x31,m5,q1,q2,k4⟩:=app [105,110] m3 k3
   have q1:X9 Q1 [.string ⟨#[]⟩] 1 1 [(0,.string ⟨#[105,110]⟩)] m3=some (x31,m5):=q1
   simp only [X1a] at q1 ⊢
   rw [q1,X6,q2,X6]
   simp only [Xe,X4,Nat.zero_add]
   refine k4.sto (l1:=[_]) (o:=2) (y:=sv (X1i c s'.cu).1) (cs':=peV z0 z1 (X1i c s'.cu).1 t3 b4 b5) rfl rfl (by show 2 + 1 ≤ 6; omega) rfl fun m6 k6=>?_
   have:=nb_6 hc (o:=1) (i:=i) (yl:=peV z0 z1 (X1i c s'.cu).1 t3 b4 b5) k6 (by rw [hSX]; exact hl) hll (by rw [hSX]; exact hi) (by':=by') (by simp) rfl (Xoc (Nat.le_trans hnm (by decide)) h3) rfl (bw:=b2) (n:=4) (r:=0) (ws:=[nbW,X2a a,[114,111,117,116,101,45,109,97,112],[105,110]]) (by simp) rfl (by omega) (by simp) (by simp) (wl4 _ _ (by decide) (by decide)) d
   rw [← hS] at this
   exact this
  ·rw [if_neg (of_decide_eq_false hb)]
   obtain ⟨b2,m4,x31,m5,q1,q2,k4⟩:=app [111,117,116] m3 k3
   simp only [X1a] at q1 ⊢
   rw [q1,X6,q2,X6]
   simp only [Xe,X4,Nat.zero_add]
   refine k4.sto (l1:=[_]) (o:=3) (y:=sv (X1i c s'.cu).1) (cs':=peV z0 z1 t2 (X1i c s'.cu).1 b4 b5) rfl rfl (by show 3 + 1 ≤ 6; omega) rfl fun m6 k6=>?_
   have:=nb_6 hc (o:=1) (i:=i) (yl:=peV z0 z1 t2 (X1i c s'.cu).1 b4 b5) k6 (by rw [hSX]; exact hl) hll (by rw [hSX]; exact hi) (by':=by') (by simp) rfl (Xoc h2 (Nat.le_trans hnm (by decide))) rfl (bw:=b2) (n:=4) (r:=0) (ws:=[nbW,X2a a,[114,111,117,116,101,45,109,97,112],[111,117,116]]) (by simp) rfl (by omega) (by simp) (by simp) (wl4 _ _ (by decide) (by decide)) d
   rw [← hS] at this
   exact this
 rw [if_neg (of_decide_eq_false hb)]
 refine Xn (fun hb=>?_) (fun hb=>?_)
 ·have hb:=of_decide_eq_true hb
  rw [if_pos hb]
  subst hb
  cases hkw
  simp only [Xe,X4,Nat.zero_add]
  refine h.sto (l1:=[_]) (o:=4) (y:=.bool true) (cs':=peV z0 z1 t2 t3 true b5) rfl rfl (by show 4 + 1 ≤ 6; omega) rfl fun m6 k6=>?_
  exact nb_6 hc (o:=2) (i:=i) (yl:=peV z0 z1 t2 t3 true b5) k6 hl hll hi (by':=by') (by simp) rfl (Xoc h2 h3) rfl (bw:=bw) (n:=3) (r:=1) (ws:=[nbW,X2a a,[99,108,105,101,110,116]]) (by simp) rfl (by omega) (by simp) (by simp) (wl _ (by decide)) d
 ·rw [if_neg (of_decide_eq_false hb)]
  rename_i hb0 hb1
  have ho3:o=3:=by
   have h0:=of_decide_eq_false hb0
   have h1:=of_decide_eq_false hb1
   have h2:=of_decide_eq_false hb
   omega
  subst ho3
  cases hkw
  simp only [Xe,X4,Nat.zero_add]
  refine h.sto (l1:=[_]) (o:=5) (y:=.bool true) (cs':=peV z0 z1 t2 t3 b4 true) rfl rfl (by show 5 + 1 ≤ 6; omega) rfl fun m6 k6=>?_
  exact nb_6 hc (o:=3) (i:=i) (yl:=peV z0 z1 t2 t3 b4 true) k6 hl hll hi (by':=by') (by simp) rfl (Xoc h2 h3) rfl (bw:=bw) (n:=3) (r:=1) (ws:=[nbW,X2a a,[110,101,120,116,45,104,111,112,45,115,101,108,102]]) (by simp) rfl (by omega) (by simp) (by simp) (wl _ (by decide)) d
theorem Xwk (c:Cx) (cu:Cu) (w:Bool):(X3t c cu w).1 ≤ 32:=by
 have hz:∀ x:Nat,lz32 x ≤ 32:=fun x=>Nat.sub_le _ _
 unfold X3t
 generalize (if w=true then 4294967295 - (X1o c cu).1 else (X1o c cu).1)=x
 unfold Xo3
 split
 ·rename_i n hn
  split at hn
  ·cases hn; exact hz _
  ·cases hn
 ·exact Nat.zero_le _
theorem Xcj (c:Cx) (s:PSt):X40 c s=(let a:=X1o c s.cu
  let b:=nOf s.X [0] 11 - 1
  let i:=Xje s.X [11,0] (b * 6 + 4) 6 0 (a.1:Int)
  let o:=oneC c a.2 nbK
  nbR c (s.at o.2) b a.1 i o.1 (match i with | some j=>(List.range 6).map fun q=>vOf s.X [b * 6 + 4,11,0] (j * 6 + q) | none=>peV 0 0 [] [] false false)):=by
 unfold X40 nbR X7y
 dsimp only
 generalize oneC c (X1o c s.cu).2 nbK=O
 generalize Xje s.X [11,0] ((nOf s.X [0] 11 - 1) * 6 + 4) 6 0 ((X1o c s.cu).1:Int)=i
 by_cases h0:O.1=0
 ·simp only [if_pos h0]
  cases i <;> rfl
 ·by_cases h1:O.1=1
  ·simp only [if_neg h0,if_pos h1]
   by_cases h2:(oneC c (X1i c (s.at O.2).cu).2 [[105,110],[111,117,116]]).1=0
   ·have h2':(oneC c (X1i c O.2).2 [[105,110],[111,117,116]]).1=0:=h2
    simp only [if_pos h2,if_pos h2']
    cases i <;> rfl
   ·have h2':¬ (oneC c (X1i c O.2).2 [[105,110],[111,117,116]]).1=0:=h2
    simp only [if_neg h2,if_neg h2']
    cases i <;> rfl
  ·by_cases h2:O.1=2
   ·simp only [if_neg h0,if_neg h1,if_pos h2]
    cases i <;> rfl
   ·simp only [if_neg h0,if_neg h1,if_neg h2]
    cases i <;> rfl
theorem Xl6 (h:PS c cap m φ s) (hc:cap ≤ 8589934592) (hn:0 < nOf s.X [0] 11) (d:Nat):PaD c cap 1 m φ s (TA (d + 7) Q6j [pt c.P 0 0,pt c.C 0 0,pt (φ [11,0]).b ((nOf s.X [0] 11 - 1) * 6) (φ [11,0]).ver] m) (.tuple ⟨[]⟩) (X40 c s):=by
 rw [Xcj]
 dsimp only
 refine h.pad (X5j _ _ _ _ _) fun m0 k=>?_
 obtain ⟨l,hl,_,hll,_,_,_⟩:=k.ps.last hc (f:=11) (r':=16) (sz:=6) rfl (by omega) rfl hn
 generalize nOf s.X [0] 11 - 1=b at hll ⊢
 have hf:fdAt 16 (b * 6 + 4)=some (.l 18):=by rw [fd_row (r:=16) (sz:=6) rfl b 4 (by omega)]; rfl
 have ha:=Xaq c s.cu
 unfold Q2q
 refine k.cl (X43 k.ps (d + 1)) fun m1 k1=>?_
 generalize hA:X1o c s.cu=A at k1 ha ⊢
 refine k1.new fun ba m2 k2=>?_
 refine k2.sto (l1:=[]) (o:=0) (y:=u32 A.1) (cs':=[u32 A.1]) rfl rfl (by show 0 + 1 ≤ 1; omega) rfl fun m3 k3=>?_
 have hl3:(s.at A.2).X [11,0]=some (.c l):=hl
 obtain ⟨_,_,ld3,_,q5⟩:=k3.ps.list hl3 kt11 (o:=b * 6 + 4) (by omega) hf
 unfold Q7w
 have hba:=(k3.lt (ba,0,[u32 A.1]) (List.mem_cons_self ..)).2
 have hga:=k3.at' (ba,0,[u32 A.1]) (List.mem_cons_self ..)
 have ix:=c_ixE k3.ps hc hl3 kt11 (o:=b * 6 + 4) (by omega) hf (A.1:Int) hba hga (d + 4)
 have ix:TA (d + 6) Q16 [slV (φ [b * 6 + 4,11,0]) (nOf s.X [11,0] (b * 6 + 4)) (rowL 18),.func (.func Q1a) ⟨[]⟩ ⟨[pt ba 0 0]⟩] m3=some (idxV (Xje s.X [11,0] (b * 6 + 4) 6 0 (A.1:Int)),m3):=ix
 have ld3:X7 false 1 (pt (φ [11,0]).b (b * 6 + 4) (φ [11,0]).ver) m3=some (slV (φ [b * 6 + 4,11,0]) (nOf s.X [11,0] (b * 6 + 4)) (rowL 18)):=ld3
 simp only [Xj,Xe,X4,ld3,ix,X6]
 have hi:∀ j,Xje s.X [11,0] (b * 6 + 4) 6 0 (A.1:Int)=some j→j < nOf s.X [11,0] (b * 6 + 4):=fun j hj=>by
  have:=X7p _ _ _ _ _ _ hj
  omega
 generalize Xje s.X [11,0] (b * 6 + 4) 6 0 (A.1:Int)=i at hi ⊢
 unfold Q7x
 refine k3.bsl (cs:=nbK.map sv) rfl (by decide) fun bs m4 k4=>?_
 have lt:=Xg7 c A.2 nbK (by simp)
 refine k4.cl (X6d k4.ps (k4.slx (ws:=nbK) (List.mem_cons_self ..)) (by simp) (d + 3)) fun m5 k5=>?_
 rw [X29] at k5 ⊢
 generalize hO:oneC c A.2 nbK=O at k5 lt ⊢
 have lt:O.1 < 4:=lt
 have k5:=k5.tl
 unfold Q7y
 refine k5.new fun by' m6 k6=>?_
 have hl6:((s.at A.2).at O.2).X [11,0]=some (.c l):=hl
 obtain ⟨kw,hkw⟩:∃ kw,nbK[O.1]?=some kw:=⟨_,List.getElem?_eq_getElem (by show O.1 < 4; exact lt)⟩
 -- behind the old cells
 have fin:∀ (m':Mem) (z0 z1:Int) (t2 t3:Str) (b4 b5:Bool),t2.length ≤ SB→t3.length ≤ SB→(match i with | some j=>(List.range 6).map fun q=>vOf s.X [b * 6 + 4,11,0] (j * 6 + q) | none=>peV 0 0 [] [] false false)=peV z0 z1 t2 t3 b4 b5 →
   W c m0 φ s cap m' φ ((s.at A.2).at O.2) [(by',0,peV z0 z1 t2 t3 b4 b5),(ba,0,[u32 A.1])] →
   Res c m0 φ s (Q3b (d6 d) (pt ba 0 0) (I O.1) (pt c.C 0 0) (pt by' 0 0) (idxV i) (pt (φ [11,0]).b (b * 6) (φ [11,0]).ver) (pt c.P 0 0) m') (Q_p cap 1 (.tuple ⟨[]⟩) (nbR c (s.at O.2) b A.1 i O.1 (match i with | some j=>(List.range 6).map fun q=>vOf s.X [b * 6 + 4,11,0] (j * 6 + q) | none=>peV 0 0 [] [] false false))):=fun m' z0 z1 t2 t3 b4 b5 h2 h3 hy k'=>by
  rw [hy]
  unfold Q3b
  have lda:X7 false 1 (pt ba 0 0) m'=some (u32 A.1):=k'.ld (r:=0) (o:=0) (cs:=[u32 A.1]) (by simp) rfl
  simp only [lda,X4]
  refine k'.bsl (cs:=nbK.map sv) rfl (by decide) fun bk m7 k7=>?_
  have ixk:Xb 1 (.slice (some ⟨bk,0,some 1⟩) 4 1) (I O.1)=some (pt bk (O.1 * 1) 0):=X3c ⟨bk,0,1⟩ (by show 1 < 2; omega) 4 1 O.1 .i64 lt
  have ldk:X7 false 1 (pt bk (O.1 * 1) 0) m7=some (sv kw):=k7.ld (List.mem_cons_self ..) (by rw [Nat.mul_one,List.getElem?_map,hkw]; rfl)
  have ct:TA (d + 6) Q5s [u32 A.1] m7=some (sv (X2a A.1),m7):=c_addrText A.1 ha (d + 5) m7
  simp only [ixk,X4,ldk,ct,X6,Xir,Bool.and_true,X2c]
  have k7:=k7.tl
  refine k7.bsl (cs:=[nbW,X2a A.1,kw].map sv) rfl (by decide) fun bw m8 k8=>?_
  exact nb_5 hc (s':=(s.at A.2).at O.2) lt hkw ha h2 h3 k8 hl6 hll hi d
 unfold Q7z
 simp only [Xx7,X4]
 cases i with
 | none =>
  simp only [Option.isSome_none,Xa]
  exact fin m6 0 0 [] [] false false (Nat.zero_le _) (Nat.zero_le _) rfl k6
 | some j =>
  simp only [Option.isSome_some,Xc]
  have hj:=hi j rfl
  obtain ⟨l2,a1,a2,a3⟩:=q5 (by show nOf s.X [11,0] (b * 6 + 4) ≠ 0; omega)
  obtain ⟨_,_,ld6,_,_⟩:=k6.ps.list hl6 kt11 (o:=b * 6 + 4) (by omega) hf
  have ld6:X7 false 1 (pt (φ [11,0]).b (b * 6 + 4) (φ [11,0]).ver) m6=some (slV (φ [b * 6 + 4,11,0]) (nOf s.X [11,0] (b * 6 + 4)) (rowL 18)):=ld6
  have ixj:Xb 6 (slV (φ [b * 6 + 4,11,0]) (nOf s.X [11,0] (b * 6 + 4)) (rowL 18)) (idxV (some j))=some (pt (φ [b * 6 + 4,11,0]).b (j * 6) (φ [b * 6 + 4,11,0]).ver):=X3c _ a3 _ 6 j .i64 hj
  have a16:((s.at A.2).at O.2).X [b * 6 + 4,11,0]=some (.c l2):=a1
  obtain ⟨v1,v2⟩:=k6.ps.rowv (sz:=6) (N:=nOf s.X [11,0] (b * 6 + 4)) a16 (X2z kt11 hf) rfl a2 (fun q hq r'=>by
   have:q=0∨q=1∨q=2∨q=3∨q=4∨q=5:=by omega
   rcases this with rfl | rfl | rfl | rfl | rfl | rfl <;> (intro e; cases e)) (i:=j) hj
  obtain ⟨ty,hblk⟩:=k6.ps.blk a16 (fun e=>by injection e with e1 e2; cases e2) (fun e=>by injection e with e1 e2; cases e2)
  have hend:=row_end (sz:=rowL 18) hj
  have hend:j * 6 + 6 ≤ l2.length:=by rw [a2]; exact hend
  have ldr:X7 true 6 (pt (φ [b * 6 + 4,11,0]).b (j * 6) (φ [b * 6 + 4,11,0]).ver) m6=some (.agg ⟨(List.range 6).map (fun q=>vOf s.X [b * 6 + 4,11,0] (j * 6 + q))⟩):=Xx hblk (by rw [X18]; exact hend) v1
  obtain ⟨z0,z1,t2,t3,b4,b5,hv,h2,h3⟩:=pe_row v2
  have hv:(List.range 6).map (fun q=>vOf s.X [b * 6 + 4,11,0] (j * 6 + q))=peV z0 z1 t2 t3 b4 b5:=hv
  simp only [Xj,Xe,X4,ld6,ixj,ldr]
  rw [hv]
  refine k6.sto (l1:=[]) (o:=0) (y:=.agg ⟨peV z0 z1 t2 t3 b4 b5⟩) (cs':=peV z0 z1 t2 t3 b4 b5) rfl rfl (by show 0 + 6 ≤ 6; omega) rfl fun m7 k7=>?_
  have:=fin m7 z0 z1 t2 t3 b4 b5 h2 h3 hv k7
  simp only [hv] at this
  exact this
theorem Xxf (h:PS c cap m φ s) (hc:cap ≤ 8589934592) (hn:0 < nOf s.X [0] 11) (d:Nat):PaD c cap 1 m φ s (TA (d + 9) Q74 [pt c.P 0 0,pt c.C 0 0] m) (.tuple ⟨[]⟩) (bgpC c s):=by
 refine h.pad (X9x _ _ _ _) fun m0 k=>?_
 obtain ⟨l,hl,_,hll,ld,sb,ix⟩:=k.ps.last hc (f:=11) (r':=16) (sz:=6) rfl (by omega) rfl hn
 unfold Q58
 simp only [Xj,Xe,X4,Nat.zero_add,ld,X2x,sb,ix]
 have hw:=X2m k.ps
 refine k.cl (X2p k.ps (d + 6)) fun m1 k1=>?_
 unfold bgpC
 dsimp only
 have e0:nOf (s.at (Xk c s.cu).2).X [0] 11=nOf s.X [0] 11:=rfl
 rw [e0]
 have hn1:0 < nOf (s.at (Xk c s.cu).2).X [0] 11:=hn
 generalize hb':nOf s.X [0] 11 - 1=b at hll ⊢
 have hb1:nOf (s.at (Xk c s.cu).2).X [0] 11 - 1=b:=hb'
 generalize (Xk c s.cu).1=w at hw ⊢
 have hl1:(s.at (Xk c s.cu).2).X [11,0]=some (.c l):=hl
 generalize s.at (Xk c s.cu).2=s1 at k1 hl1 hn1 hb1 ⊢
 try simp only [X1a,Qo,X4]
 refine Xn (fun hb=>?_) (fun hb=>?_)
 ·rw [if_pos (of_decide_eq_true hb)]
  refine k1.cl (X43 k1.ps (d + 3)) fun m2 k2=>?_
  try simp only [Xj,Xe,X4]
  refine k2.st1 hl1 kt11 (by omega) rfl rfl (by decide) (by rw [fd_row (r:=16) (sz:=6) rfl b 2 (by omega)]; exact ok_i _ _) fun m3 l3 hl3 hn3 k3=>?_
  exact (k3.ins1 hw (d + 6) rfl).pd
 rw [if_neg (of_decide_eq_false hb)]
 try simp only [X1a,Qo,X4]
 refine Xn (fun hb=>?_) (fun hb=>?_)
 ·rw [if_pos (of_decide_eq_true hb)]
  have ha:=Xaq c s1.cu
  refine k1.cl (X43 k1.ps (d + 3)) fun m2 k2=>?_
  generalize hA:X1o c s1.cu=A at k2 ha ⊢
  refine k2.cl (Xhp k2.ps false (d + 2)) fun m3 k3=>?_
  rw [X29] at k3 ⊢
  have hM32:(X3t c A.2 false).1 ≤ 32:=Xwk c A.2 false
  generalize hM:X3t c A.2 false=M at k3 hM32 ⊢
  have k3:W c m0 φ s cap m3 φ (s1.at M.2) []:=k3
  refine k3.cl (Xod k3.ps A.1 ha (M.1:Int) (d + 5)) fun m4 k4=>?_
  have k4:W c m0 φ s cap m4 φ (s1.at (netC c M.2 A.1 (M.1:Int))) []:=k4
  refine k4.new fun bp' m5 k5=>?_
  refine k5.sto (l1:=[]) (o:=0) (y:=pfx A.1 (M.1:Int)) (cs':=[u32 A.1,I M.1]) rfl rfl (by show 0 + 2 ≤ 2; omega) rfl fun m6 k6=>?_
  have ldp:X7 true 2 (pt bp' 0 0) m6=some (pfx A.1 (M.1:Int)):=k6.lds (o:=0) (List.mem_cons_self ..) (by show 0 + 2 ≤ 2; omega) rfl
  have ct:=c_addrPrefixText A.1 ha (M.1:Int) (X5a (by omega)) (d + 6) m6
  have ct:TA (d + 8) Q7u [pfx A.1 (M.1:Int)] m6=some (sv (Xet A.1 (M.1:Int)),m6):=ct
  have hpl:(Xet A.1 (M.1:Int)).length ≤ 65536:=by
   have h1:=Xa5 A.1 ha
   have h2:=Xm2 (M.1:Int) (X5a (by omega))
   have e:Xet A.1 (M.1:Int)=X2a A.1 ++ 47 :: itoa (M.1:Int):=by unfold Xet; first | rfl | simp
   rw [e,List.length_append,List.length_cons]
   omega
  simp only [ldp,X4,ct,X6]
  refine k6.bsl (cs:=[w,Xet A.1 (M.1:Int)].map sv) rfl (by decide) fun bw m7 k7=>?_
  refine k7.cs (X55 k7.ps (ws:=[w,Xet A.1 (M.1:Int)]) (k7.slx (List.mem_cons_self ..)) (by simp) (by simp) (by simpa using ⟨hw,hpl⟩) (d + 6)) fun m8 k8=>?_
  have k8:=k8.tl
  generalize hS:Xz (s1.at (netC c M.2 A.1 (M.1:Int))) [w,Xet A.1 (M.1:Int)]=S at k8
  have hSX:S.X [11,0]=some (.c l):=by
   rw [← hS]
   obtain ⟨lr,hr0,_⟩:=k1.ps.wt.root
   unfold Xz X1z
   have hr1:(s1.at (netC c M.2 A.1 (M.1:Int))).X [0]=some (.c lr):=hr0
   dsimp only
   rw [NX.set_ne _ _ (by decide),X1c hr1,NX.set_ne _ _ (by decide)]
   exact hl1
  have hf:fdAt 16 (b * 6 + 3)=some (.l 17):=by rw [fd_row (r:=16) (sz:=6) rfl b 3 (by omega)]; rfl
  obtain ⟨_,_,ld8,_,_⟩:=k8.ps.list hSX kt11 (o:=b * 6 + 3) (by omega) hf
  have ldp8:X7 true 2 (pt bp' 0 0) m8=some (pfx A.1 (M.1:Int)):=k8.lds (o:=0) (cs:=[u32 A.1,I M.1]) (List.mem_cons_self ..) (by show 0 + 2 ≤ 2; omega) rfl
  simp only [Xj,Xe,X4,ld8,ldp8]
  refine k8.bsl (cs:=[u32 A.1,I M.1]) rfl (by decide) fun b2 m9 k9=>?_
  have k9:W c m0 φ s cap m9 φ S ((b2,0,[Cl.v (u32 A.1),.v (I M.1)].map Cl.raw) :: _):=k9
  refine k9.apk hc hSX kt11 (by omega) hf (sz:=2) rfl rfl rfl (X2k (And.intro (ok_i _ _) (And.intro (ok_i _ _) trivial))) (by decide) fun cap1 m10 φ1 hc1 _ k10=>?_
  exact k10.retp hc1
 rw [if_neg (of_decide_eq_false hb)]
 try simp only [X1a,Qo,X4]
 refine Xn (fun hb=>?_) (fun hb=>?_)
 ·rw [if_pos (of_decide_eq_true hb)]
  have law:=Xl6 k1.ps hc hn1 (d + 1)
  rw [hb1] at law
  exact k1.pd law fun cap1 m2 φ1 hc1 k2=>k2.retp hc1
 rw [if_neg (of_decide_eq_false hb)]
 try simp only [X1a,Qo,X4]
 refine Xn (fun hb=>?_) (fun hb=>?_)
 ·rw [if_pos (of_decide_eq_true hb)]
  try simp only [Xj,Xe,X4]
  exact k1.red (d + 1) hc hl1 kt11 (by omega) (by rw [fd_row (r:=16) (sz:=6) rfl b 5 (by omega)]; rfl) [111,115,112,102] 4 false
 ·rw [if_neg (of_decide_eq_false hb)]
  exact (k1.badr 130 (by decide) (d + 6) rfl).pd
end Go.Ab.Sh

set_option maxRecDepth 100000
namespace Go.Ab.Sh
open Go Go.Ab Go.Lib
variable {c:Cx} {m0 m:Mem} {φ0 φ:Phi} {s0 s s':PSt} {cap δ:Nat} {ts:List Tmp} {x:Option Rs} {Q:Value→Nat→Phi→PSt→Prop} {v:Value} {cu:Cu}
theorem Xj4 (d:Nat) {K:Key} (hr:kt K=some 13) (h0:K ≠ [0]) (φ0':Phi) (kw:Str) (b cap0 δ:Nat):∀ (f F:Nat) (s1:PSt) (cap1:Nat) (φ1:Phi) (m:Mem) (l:List Cl),c.ws.length - s1.cu.pl < f→c.ws.length - s1.cu.pl + 1 < F→cap1 + (c.ws.length - s1.cu.pl) + 1 ≤ cap0 + δ→cap0 + δ ≤ 8589934592→φ1 K=φ0' K →
  s1.X K=some (.c l)→b * 15 + 15 ≤ l.length→W c m0 φ0 s0 cap1 m φ1 s1 ts →
  Res c m0 φ0 s0 (Q3f (d6 d) F (.bool true) (pt (φ0' K).b (b * 15) (φ0' K).ver) (pt c.C 0 0) (sv kw) m) (Q_p cap0 δ (sv kw) (X2n c K (b * 15 + 12) f s1))
 | f + 1,F + 1,s1,cap1,φ1,m,l,h1,h2,h3,h4,hφ,hl,hll,k=>by
  have hf:fdAt 13 (b * 15 + 12)=some (.l 11):=by rw [fd_row (r:=13) (sz:=15) rfl b 12 (by omega)]; rfl
  obtain ⟨-,-,ld,-,-⟩:=k.ps.list hl hr (o:=b * 15 + 12) (by omega) hf
  rw [hφ] at ld
  unfold Q3f
  rw [Xc]
  simp only [Xj,Xe,X4,ld]
  refine k.cl (X15 k.ps 1 4294967295 4294967295 rfl (by omega) d) fun m1 k1=>?_
  have hl1:(s1.at (Xf c s1.cu 1 4294967295).2).X K=some (.c l):=hl
  obtain ⟨-,-,ld1,-,-⟩:=k1.ps.list hl1 hr (o:=b * 15 + 12) (by omega) hf
  rw [hφ] at ld1
  have ld1:X7 false 1 (pt (φ0' K).b (b * 15 + 12) (φ0' K).ver) m1=some (slV (φ1 ((b * 15 + 12) :: K)) (nOf s1.X K (b * 15 + 12)) (rowL 11)):=ld1
  simp only [ld1,X74,Bool.and_true,X2c,Xbu c _ 1 4294967295 (by omega),X6]
  refine k1.bsl (cs:=[.int .u32 (Xf c s1.cu 1 4294967295).1]) rfl (by decide) fun b2 m2 k2=>?_
  have k2:W c m0 φ0 s0 cap1 m2 φ1 (s1.at (Xf c s1.cu 1 4294967295).2) ((b2,0,[Cl.v (.int .u32 (Xf c s1.cu 1 4294967295).1)].map Cl.raw) :: ts):=k2
  rw [← hφ]
  refine k2.apk (by omega) hl1 hr (by omega) hf (sz:=1) rfl rfl rfl (X2k (And.intro (ok_i _ _) trivial)) (by decide) fun cap2 m3 φ2 hc2 hφ2 k3=>?_
  have hK2:φ2 K=φ0' K:=by rw [hφ2 K (fun e=>X30 (b * 15 + 12) K e.symm),hφ]
  have hm:TA (d + 6) Q18 [pt c.C 0 0] m3=some (.bool (X2w c (Xf c s1.cu 1 4294967295).2),m3):=c_more k3.ps (d + 5)
  simp only [hm,X6]
  have hsp:X2n c K (b * 15 + 12) (f + 1) s1=if X2w c (Xf c s1.cu 1 4294967295).2=true then X2n c K (b * 15 + 12) f ((s1.at (Xf c s1.cu 1 4294967295).2).app K (b * 15 + 12) [.v (.int .u32 (Xf c s1.cu 1 4294967295).1)]) else (s1.at (Xf c s1.cu 1 4294967295).2).app K (b * 15 + 12) [.v (.int .u32 (Xf c s1.cu 1 4294967295).1)]:=rfl
  rw [hsp]
  cases hmo:X2w c (Xf c s1.cu 1 4294967295).2 with
  | true =>
   obtain ⟨g1,g2⟩:=Xtp hmo
   have g3:s1.cu.pl < c.ws.length:=X8p g1
   rw [if_pos rfl,hφ]
   obtain ⟨q1,-⟩:=k1.ps.list hl1 hr (o:=b * 15 + 12) (by omega) hf
   have hl2:((s1.at (Xf c s1.cu 1 4294967295).2).app K (b * 15 + 12) [.v (.int .u32 (Xf c s1.cu 1 4294967295).1)]).X K=some (.c (l.set (b * 15 + 12) (.s (nOf s1.X K (b * 15 + 12) + 1) 1))):=by
    show apF s1.X K (b * 15 + 12) _ K=_
    rw [Xc8 hl q1 _ rfl,NX.set_eq]
    rfl
   have g4:((s1.at (Xf c s1.cu 1 4294967295).2).app K (b * 15 + 12) [.v (.int .u32 (Xf c s1.cu 1 4294967295).1)]).cu.pl=s1.cu.pl + 1:=g2
   generalize (s1.at (Xf c s1.cu 1 4294967295).2).app K (b * 15 + 12) [Cl.v (.int .u32 (Xf c s1.cu 1 4294967295).1)]=s2 at hl2 g4 k3 ⊢
   exact Xj4 d hr h0 φ0' kw b cap0 δ f F _ cap2 φ2 m3 _ (by omega) (by omega) (by omega) h4 hK2 hl2 (by rw [List.length_set]; exact hll) k3
  | false =>
   rw [if_neg (by decide)]
   obtain ⟨F,rfl⟩:∃ j,F=j + 1:=⟨F - 1,by omega⟩
   unfold Q3f
   rw [Xa]
   unfold Qp
   exact k3.ret ⟨rfl,by omega,rfl⟩
theorem Xxe (h:PS c cap m φ s) {K:Key} {l:List Cl} {b:Nat} (hc:cap + c.ws.length + 1 ≤ 8589934592) (hK:s.X K=some (.c l)) (hr:kt K=some 13) (h0:K ≠ [0]) (hll:b * 15 + 15 ≤ l.length) (d:Nat) :
  PaD c cap (c.ws.length + 1) m φ s (TA (d + 7) Q9e [pt c.P 0 0,pt c.C 0 0,pt (φ K).b (b * 15) (φ K).ver] m) (sv (setC c s K (b * 15)).1) (setC c s K (b * 15)).2:=by
 refine h.pad (Xao _ _ _ _ _) fun m0 k=>?_
 unfold Q59 Qbb
 refine k.cl (X2p k.ps (d + 4)) fun m1 k1=>?_
 unfold Qbc Qbd setC
 dsimp only
 generalize (Xk c s.cu).1=w
 have hK1:(s.at (Xk c s.cu).2).X K=some (.c l):=hK
 generalize s.at (Xk c s.cu).2=s1 at k1 hK1 ⊢
 have num:∀ (o:Nat) (hi:Nat),hi < 1000000000000→o < 15→(rowT 13)[o]?=some (.i .i64)→Res c m0 φ s (bp (TA (d + 6) Q0 [pt c.C 0 0,.int .i64 0,.int .i64 (hi:Int)] m1) fun x0 m =>
   bp (unt (X8 1 (pt (φ K).b (b * 15 + o) (φ K).ver) x0 m)) fun _ m=>Qp (d6 d) (sv w) m) (Q_p cap (c.ws.length + 1) (sv w) ((s1.at (Xf c s1.cu 0 hi).2).sto K (b * 15 + o) [.int .i64 (Xf c s1.cu 0 hi).1])):=fun o hi hh ho hf=>by
  refine k1.cl (X15 k1.ps 0 hi hi rfl hh d) fun m2 k2=>?_
  refine k2.st1 hK1 hr (by omega) rfl rfl h0 (by rw [fd_row (r:=13) (sz:=15) rfl b o ho,hf]; exact ok_i _ _) fun m3 l3 _ _ k3=>?_
  unfold Qp
  exact k3.retp (Nat.le_add_right _ _)
 try simp only [X1a,Qo,X4]
 unfold Qbe
 refine Xn (fun hb=>?_) (fun hb=>?_)
 ·rw [if_pos (of_decide_eq_true hb)]
  try simp only [Xj,Xe,X4]
  exact num 7 16777216 (by omega) (by omega) rfl
 rw [if_neg (of_decide_eq_false hb)]
 try simp only [X1a,Qo,X4]
 unfold Qbf
 refine Xn (fun hb=>?_) (fun hb=>?_)
 ·rw [if_pos (of_decide_eq_true hb)]
  try simp only [Xj,Xe,X4]
  exact num 8 16777216 (by omega) (by omega) rfl
 rw [if_neg (of_decide_eq_false hb)]
 try simp only [X1a,Qo,X4]
 unfold Qbg
 refine Xn (fun hb=>?_) (fun hb=>?_)
 ·rw [if_pos (of_decide_eq_true hb)]
  try simp only [Xj,Xe,X4]
  exact num 9 16777216 (by omega) (by omega) rfl
 rw [if_neg (of_decide_eq_false hb)]
 try simp only [X1a,Qo,X4]
 unfold Qbh
 refine Xn (fun hb=>?_) (fun hb=>?_)
 ·rw [if_pos (of_decide_eq_true hb)]
  refine k1.cl (X64 k1.ps [97,100,100] (d + 4)) fun m2 k2=>?_
  try simp only [Xj,Xe,X4]
  refine k2.st1 hK1 hr (by omega) rfl rfl h0 (by rw [fd_row (r:=13) (sz:=15) rfl b 11 (by omega)]; exact ok_b _) fun m3 l3 hl3 hn3 k3=>?_
  obtain ⟨L,m4,e4,k4,hLr⟩:=Xm9 k3.ps (d + 2)
  have e4:TA (d + 6) Q2v [pt c.C 0 0] m3=some (slV L (X20 c (c.ws.length + 1) (isC c s1.cu [97,100,100]).2).1.length 1,m4):=e4
  rw [e4,X6]
  have k4:=k3.join k4
  have hlen:=Xbe c (c.ws.length + 1) (isC c s1.cu [97,100,100]).2
  refine W.ads (ts:=[]) k4 hLr (by rw [List.length_map]; rfl) (Xdw _ _ _) (fun v hv=>by
   obtain ⟨z,_,rfl⟩:=List.mem_map.mp hv
   exact ⟨_,rfl⟩) (k:=K) hl3 hr h0 (o:=b * 15 + 10) (by omega) (by rw [fd_row (r:=13) (sz:=15) rfl b 10 (by omega)]; rfl) fun m5 φ1 _ k5=>?_
  unfold Qp
  refine k5.ret ⟨rfl,?_,rfl⟩
  have hlen:(X20 c (c.ws.length + 1) (isC c s1.cu [97,100,100]).2).1.length ≤ c.ws.length + 1:=hlen
  show max cap (X20 c (c.ws.length + 1) (isC c s1.cu [97,100,100]).2).1.length ≤ _
  omega
 rw [if_neg (of_decide_eq_false hb)]
 try simp only [X1a,Qo,X4]
 unfold Qbi
 refine Xn (fun hb=>?_) (fun hb=>?_)
 ·rw [if_pos (of_decide_eq_true hb)]
  unfold Qbj
  have hle:=h.wl.len
  exact Xj4 d hr h0 φ w b cap (c.ws.length + 1) (c.ws.length + 1) 18446744073709551616 s1 cap φ m1 l (by omega) (by omega) (by omega) (by omega) rfl hK1 hll k1
 rw [if_neg (of_decide_eq_false hb)]
 try simp only [X1a,Qo,X4]
 refine Xn (fun hb=>?_) (fun hb=>?_)
 ·rw [if_pos (of_decide_eq_true hb)]
  refine k1.cl (Xun k1.ps d) fun m2 k2=>?_
  try simp only [Xj,Xe,X4]
  refine k2.st1 hK1 hr (by omega) rfl rfl h0 (by rw [fd_row (r:=13) (sz:=15) rfl b 13 (by omega)]; exact ok_i _ _) fun m3 l3 _ _ k3=>?_
  unfold Qp
  exact k3.retp (Nat.le_add_right _ _)
 ·rw [if_neg (of_decide_eq_false hb)]
  refine k1.cl (X3n k1.ps 130 (by decide) (d + 4)) fun m2 k2=>?_
  unfold Qp
  exact k2.retp (Nat.le_add_right _ _)
theorem W.inp1 {cap1:Nat} {φ1:Phi} (h:W c m0 φ s cap1 m φ1 s' ts) (hc:cap1 ≤ cap + δ) {w:Str} (hw:w.length ≤ 65536) (d:Nat) {S:PSt} (hS:Xz s' [w]=S) :
  Res c m0 φ s (bp (X9 Q1 [.string ⟨#[]⟩] 1 1 [(0,sv w)] m) fun y m=>bp (TA (d + 2) Q6 [pt c.P 0 0,y] m) fun _ m=>some (.tuple ⟨[]⟩,m)) (Q_p cap δ (.tuple ⟨[]⟩) S):=by
 subst hS
 refine h.bsl (cs:=[w].map sv) rfl (by decide) fun b m1 k1=>?_
 refine k1.cs (X55 k1.ps (ws:=[w]) (k1.slx (List.mem_cons_self ..)) (by simp) (by simp) (by simpa using hw) d) fun m2 k2=>?_
 exact k2.retp hc
theorem W.inp2 {cap1:Nat} {φ1:Phi} (h:W c m0 φ s cap1 m φ1 s' ts) (hc:cap1 ≤ cap + δ) {w1 w2:Str} (hw1:w1.length ≤ 65536) (hw2:w2.length ≤ 65536) (d:Nat) {S:PSt} (hS:Xz s' [w1,w2]=S) :
  Res c m0 φ s (bp (X9 Q1 [.string ⟨#[]⟩] 1 2 [(0,sv w1),(1,sv w2)] m) fun y m=>bp (TA (d + 2) Q6 [pt c.P 0 0,y] m) fun _ m=>some (.tuple ⟨[]⟩,m)) (Q_p cap δ (.tuple ⟨[]⟩) S):=by
 subst hS
 refine h.bsl (cs:=[w1,w2].map sv) rfl (by decide) fun b m1 k1=>?_
 refine k1.cs (X55 k1.ps (ws:=[w1,w2]) (k1.slx (List.mem_cons_self ..)) (by simp) (by simp) (by simpa using ⟨hw1,hw2⟩) d) fun m2 k2=>?_
 exact k2.retp hc
theorem kt9:kt [9,0]=some 12:=rfl
structure Xv5 (X:NX):Prop where
 pos:0 ≤ iOf X [0] 17
 lt:(iOf X [0] 17).toNat < nOf X [0] 9
 cl:0 < nOf X [9,0] ((iOf X [0] 17).toNat * 3 + 1)
theorem Xsz (h:PS c cap m φ s) (hp:0 ≤ iOf s.X [0] 17):X7 false 1 (pt c.P 17 0) m=some (I ((iOf s.X [0] 17).toNat:Nat)):=by
 obtain ⟨l,hk,hl18,ld⟩:=h.root
 obtain ⟨d,q1,q2⟩:=h.wt.get hk (r:=0) rfl (o:=17) (by omega)
 have q2:okc (some (.i .i64)) d:=q2
 cases d with
 | s n sz=>exact False.elim q2
 | v y =>
  obtain ⟨z,rfl⟩:=q2
  have e:iOf s.X [0] 17=z:=by unfold iOf vOf; rw [X8v hk,q1]; rfl
  rw [ld 17 _ (.inr (by omega)) q1,e]
  rw [e] at hp
  rw [Int.toNat_of_nonneg hp]
theorem Xyl (h:PS c cap m φ s) (hc:cap + c.ws.length + 1 ≤ 8589934592) (ha:Xv5 s.X) (d:Nat):PaD c cap (c.ws.length + 1) m φ s (TA (d + 9) Q5a [pt c.P 0 0,pt c.C 0 0] m) (.tuple ⟨[]⟩) (askC c s):=by
 refine h.pad (Xar _ _ _ _) fun m0 k=>?_
 obtain ⟨hpos,hlt,hcl⟩:=ha
 have lp:=Xsz k.ps hpos
 unfold askC askK askB
 generalize (iOf s.X [0] 17).toNat=p at hlt hcl lp ⊢
 obtain ⟨⟨lr,hr0,hr18⟩,q2,q3,_,q5⟩:=k.ps.dev (f:=9) (r':=12) (sz:=3) rfl (by omega) rfl
 obtain ⟨l9,a1,a2,a3⟩:=q5 (by omega)
 have hend:=row_end (sz:=3) hlt
 have hf:fdAt 12 (p * 3 + 1)=some (.l 13):=by rw [fd_row (r:=12) (sz:=3) rfl p 1 (by omega)]; rfl
 obtain ⟨l,hl,_,hll,ld,sb,ix⟩:=k.ps.lrow (by omega) a1 kt9 (o:=p * 3 + 1) (by omega) hf (sz:=15) rfl hcl
 have hr:=X2z kt9 hf
 have ixp:Xb 3 (slV (φ [9,0]) (nOf s.X [0] 9) 3) (I p)=some (pt (φ [9,0]).b (p * 3) (φ [9,0]).ver):=X3c _ a3 _ 3 p .i64 hlt
 have h0:(p * 3 + 1) :: [9,0] ≠ [0]:=fun e=>by injection e with e1 e2; cases e2
 unfold Q5b
 simp only [Xj,Xe,X4,Nat.zero_add,q3,lp,ixp,ld]
 unfold Qbk
 simp only [X2x,X4,sb,ix]
 unfold Qbl
 have hw:=X2m k.ps
 refine k.cl (X2p k.ps (d + 6)) fun m1 k1=>?_
 unfold Qbm Qbn
 try dsimp only
 generalize nOf s.X [9,0] (p * 3 + 1) - 1=b at hll ⊢
 generalize (Xk c s.cu).1=w at hw ⊢
 have hl1:(s.at (Xk c s.cu).2).X [p * 3 + 1,9,0]=some (.c l):=hl
 generalize s.at (Xk c s.cu).2=s1 at k1 hl1 ⊢
 try simp only [X1a,Qo,X4]
 unfold Qbo
 refine Xn (fun hb=>?_) (fun hb=>?_)
 ·rw [if_pos (of_decide_eq_true hb)]
  have hq:=X2m k1.ps
  refine k1.cl (X2p k1.ps (d + 6)) fun m2 k2=>?_
  unfold Qbp
  generalize (Xk c s1.cu).1=q at hq ⊢
  have hl2:(s1.at (Xk c s1.cu).2).X [p * 3 + 1,9,0]=some (.c l):=hl1
  generalize s1.at (Xk c s1.cu).2=s2 at k2 hl2 ⊢
  try simp only [X1a,Qo,X4]
  have hnm:=X35 k2.ps
  have nam:∀ o,o < 15→(rowT 13)[o]?=some .s→Res c m0 φ s (bp (TA (d + 8) Qb [pt c.C 0 0] m2) fun x3 m =>
    bp (unt (X8 1 (pt (φ [p * 3 + 1,9,0]).b (b * 15 + o) (φ [p * 3 + 1,9,0]).ver) x3 m)) fun _ m=>Qz (dd d) (pt c.P 0 0) (sv w) (sv q) m) (Q_p cap (c.ws.length + 1) (.tuple ⟨[]⟩) (Xz ((s2.at (X1i c s2.cu).2).sto [p * 3 + 1,9,0] (b * 15 + o) [sv (X1i c s2.cu).1]) [w,q])):=fun o ho hf'=>by
   refine k2.cl (X2y k2.ps (d + 3)) fun m3 k3=>?_
   refine k3.st1 hl2 hr (by omega) rfl rfl h0 (by rw [fd_row (r:=13) (sz:=15) rfl b o ho,hf']; exact ok_s (Nat.le_trans hnm (by decide))) fun m4 l4 _ _ k4=>?_
   unfold Qz
   exact k4.inp2 (Nat.le_add_right _ _) hw hq (d + 6) rfl
  have num:∀ (o:Nat) (lo:Int) (hi:Nat),hi < 1000000000000→o < 15→(rowT 13)[o]?=some (.i .i64)→Res c m0 φ s (bp (TA (d + 8) Q0 [pt c.C 0 0,.int .i64 lo,.int .i64 (hi:Int)] m2) fun x3 m =>
    bp (unt (X8 1 (pt (φ [p * 3 + 1,9,0]).b (b * 15 + o) (φ [p * 3 + 1,9,0]).ver) x3 m)) fun _ m=>Qz (dd d) (pt c.P 0 0) (sv w) (sv q) m) (Q_p cap (c.ws.length + 1) (.tuple ⟨[]⟩) (Xz ((s2.at (Xf c s2.cu lo hi).2).sto [p * 3 + 1,9,0] (b * 15 + o) [.int .i64 (Xf c s2.cu lo hi).1]) [w,q])):=fun o lo hi hh ho hf'=>by
   refine k2.cl (X15 k2.ps lo hi hi rfl hh (d + 2)) fun m3 k3=>?_
   refine k3.st1 hl2 hr (by omega) rfl rfl h0 (by rw [fd_row (r:=13) (sz:=15) rfl b o ho,hf']; exact ok_i _ _) fun m4 l4 _ _ k4=>?_
   unfold Qz
   exact k4.inp2 (Nat.le_add_right _ _) hw hq (d + 6) rfl
  refine Xn (fun hb=>?_) (fun hb=>?_)
  ·rw [if_pos (of_decide_eq_true hb)]
   try simp only [Xj,Xe,X4]
   exact nam 2 (by omega) rfl
  rw [if_neg (of_decide_eq_false hb)]
  refine Xn (fun hb=>?_) (fun hb=>?_)
  ·rw [if_pos (of_decide_eq_true hb)]
   try simp only [Xj,Xe,X4]
   exact nam 3 (by omega) rfl
  rw [if_neg (of_decide_eq_false hb)]
  refine Xn (fun hb=>?_) (fun hb=>?_)
  ·rw [if_pos (of_decide_eq_true hb)]
   try simp only [Xj,Xe,X4]
   exact num 4 0 16777216 (by omega) (by omega) rfl
  rw [if_neg (of_decide_eq_false hb)]
  refine Xn (fun hb=>?_) (fun hb=>?_)
  ·rw [if_pos (of_decide_eq_true hb)]
   try simp only [Xj,Xe,X4]
   exact num 5 0 16777216 (by omega) (by omega) rfl
  rw [if_neg (of_decide_eq_false hb)]
  refine Xn (fun hb=>?_) (fun hb=>?_)
  ·rw [if_pos (of_decide_eq_true hb)]
   try simp only [Xj,Xe,X4]
   exact num 6 1 4294967295 (by omega) (by omega) rfl
  ·rw [if_neg (of_decide_eq_false hb)]
   refine k2.cl (X3n k2.ps 130 (by decide) (d + 6)) fun m3 k3=>?_
   unfold Qz
   exact k3.inp2 (Nat.le_add_right _ _) hw hq (d + 6) rfl
 rw [if_neg (of_decide_eq_false hb)]
 try simp only [X1a,Qo,X4]
 refine Xn (fun hb=>?_) (fun hb=>?_)
 ·rw [if_pos (of_decide_eq_true hb)]
  have hkl:(setC c s1 [p * 3 + 1,9,0] (b * 15)).1.length ≤ 65536:=X2m k1.ps
  refine k1.pd (Xxe k1.ps hc hl1 hr h0 hll (d + 1)) fun cap1 m2 φ1 hc1 k2=>?_
  exact k2.inp2 hc1 hw hkl (d + 6) rfl
 rw [if_neg (of_decide_eq_false hb)]
 try simp only [X1a,Qo,X4]
 refine Xn (fun hb=>?_) (fun hb=>?_)
 ·rw [if_pos (of_decide_eq_true hb)]
  obtain ⟨dv,q1,q2'⟩:=k1.ps.wt.get hl1 hr (o:=b * 15 + 0) (by omega)
  rw [fd_row (r:=13) (sz:=15) rfl b 0 (by omega)] at q2'
  have q2':okc (some (.i .i64)) dv:=q2'
  cases dv with
  | s n sz=>exact False.elim q2'
  | v y =>
   obtain ⟨z,rfl⟩:=q2'
   have ez:iOf s1.X [p * 3 + 1,9,0] (b * 15)=z:=by unfold iOf vOf; rw [X8v hl1]; rw [Nat.add_zero] at q1; rw [q1]; rfl
   have ldz:X7 false 1 (pt (φ [p * 3 + 1,9,0]).b (b * 15 + 0) (φ [p * 3 + 1,9,0]).ver) m1=some (.int .i64 z):=k1.ps.ldv (fun e=>by injection e with e1 e2; cases e2) hl1 (fun e=>absurd e h0) q1
   simp only [Xj,Xe,X4,ldz,Q3p]
   rw [ez]
   refine k1.cl (X15 k1.ps (IntKind.i64.wrap (z + 1)) 65535 65535 rfl (by omega) (d + 2)) fun m2 k2=>?_
   refine k2.st1 hl1 hr (by omega) rfl rfl h0 (by rw [fd_row (r:=13) (sz:=15) rfl b 14 (by omega)]; exact ok_i _ _) fun m3 l3 _ _ k3=>?_
   exact k3.inp1 (Nat.le_add_right _ _) hw (d + 6) rfl
 ·rw [if_neg (of_decide_eq_false hb)]
  exact (k1.badr 130 (by decide) (d + 6) rfl).pd
end Go.Ab.Sh

set_option maxRecDepth 100000
namespace Go.Ab.Sh
open Go Go.Ab Go.Lib
variable {c:Cx} {m0 m:Mem} {φ0 φ:Phi} {s0 s s':PSt} {cap δ:Nat} {ts:List Tmp} {x:Option Rs} {Q:Value→Nat→Phi→PSt→Prop} {v:Value} {cu:Cu}
noncomputable abbrev d7 (d:Nat):Gt:=⟨TA (d + 7),18446744073709551616⟩
noncomputable abbrev clsR (seq:Int) (act:Nat):List Cl:=[.v (.int .i64 seq),.v (.int .u8 (act:Int)),.v (sv []),.v (sv []),.v (.int .i64 (-1)),.v (.int .i64 (-1)),.v (.int .i64 (-1)),.v (.int .i64 (-1)),.v (.int .i64 (-1)),.v (.int .i64 (-1)),.s 0 1,.v (.bool false),.s 0 1,.v (u32 0),.v (.int .i64 0)]
noncomputable abbrev rmW:Str:=[114,111,117,116,101,45,109,97,112]
theorem Xd3 (h:W c m0 φ0 s0 cap m φ s ts) {f r' sz:Nat} (hf:fdAt 0 f=some (.l r')) (h18:f < 18) (hs:rowL r'=sz) {K:Key} (hK:K ≠ [0]) {m1:Mem} (hg:∀ a,toX c s a ≠ none→a ≠ K→m1.get (φ a).b=m.get (φ a).b) :
  X7 false 1 (pt c.P f 0) m1=some (slV (φ [f,0]) (nOf s.X [0] f) sz):=by
 obtain ⟨⟨l,hl,_⟩,_,q3,_⟩:=h.ps.dev hf h18 hs
 have hx:toX c s [0] ≠ none:=by rw [X7g hl]; simp
 have e:=hg [0] hx (Ne.symm hK)
 rw [h.ps.pP] at e
 rw [Xt8 e]
 exact q3
theorem cl_3 {cap1:Nat} {φ1:Phi} {bn i q:Nat} {act:Nat} {name:Str} (h:W c m0 φ s cap1 m φ1 s' ((bn,0,[sv name]) :: ts)) (hc1:cap1 ≤ cap + 1) (hcb:cap + 2 ≤ 8589934592) (hi:i < nOf s'.X [0] 9) (hq:q ≤ 65535) (hnl:name.length ≤ 65536) (d:Nat) :
  Res c m0 φ s (Q43 (d7 d) (pt c.P 0 0) (I i) (pt c.P 0 0) (.int .i64 (q:Int)) (.int .u8 (act:Int)) (pt bn 0 0) m) (Q_p cap 2 (.tuple ⟨[]⟩) (Xaw ((s'.sto [0] 17 [I i]).app [9,0] (i * 3 + 1) (clsR q act)) bAsk [rmW,name,X2a q])):=by
 unfold Q43
 try simp only [Xj,Xe,X4,Nat.zero_add]
 refine h.str1 (o:=17) (x:=I i) rfl rfl (by omega) (.inr (by omega)) (by show okc (fdAt 0 17) _; exact ok_i _ _) fun m1 k1=>?_
 obtain ⟨lr,hr0,hr18⟩:=h.ps.wt.root
 have hX9:(s'.sto [0] 17 [I i]).X [9,0]=s'.X [9,0]:=by
  show stF s'.X [0] 17 [I i] [9,0]=_
  rw [X1c hr0,NX.set_ne _ _ (by decide)]
 have hN:nOf (s'.sto [0] 17 [I i]).X [0] 9=nOf s'.X [0] 9:=Xom h.ps.wt hr0 (r:=0) rfl (by simp; omega) (fun j y hy=>by
  match j,hy with
  | 0,hy=>cases hy; exact ok_i _ _) [0] 9
 have hi:i < nOf (s'.sto [0] 17 [I i]).X [0] 9:=by rw [hN]; exact hi
 generalize hS:s'.sto [0] 17 [I i]=S at k1 hi ⊢
 obtain ⟨_,q2,q3,_,q5⟩:=k1.ps.dev (f:=9) (r':=12) (sz:=3) rfl (by omega) rfl
 obtain ⟨l9,a1,a2,a3⟩:=q5 (by omega)
 have hend:=row_end (sz:=3) hi
 have hf:fdAt 12 (i * 3 + 1)=some (.l 13):=by rw [fd_row (r:=12) (sz:=3) rfl i 1 (by omega)]; rfl
 obtain ⟨_,_,ldm,_,_⟩:=k1.ps.list a1 kt9 (o:=i * 3 + 1) (by omega) hf
 have ldm:X7 false 1 (pt (φ1 [9,0]).b (i * 3 + 1) (φ1 [9,0]).ver) m1=some (slV (φ1 ((i * 3 + 1) :: [9,0])) (nOf S.X [9,0] (i * 3 + 1)) 15):=ldm
 have ixp:Xb 3 (slV (φ1 [9,0]) (nOf S.X [0] 9) 3) (I i)=some (pt (φ1 [9,0]).b (i * 3) (φ1 [9,0]).ver):=X3c _ a3 _ 3 i .i64 hi
 have eb:Xi Qhq [(0,1),(1,1),(2,1),(3,1),(4,1),(5,1),(6,1),(7,1),(8,1),(9,1),(10,1),(11,1),(12,1),(13,1),(14,1)] [(0,.int .i64 (q:Int)),(1,.int .u8 (act:Int)),(4,.int .i64 (-1)),(5,.int .i64 (-1)),(6,.int .i64 (-1)),(7,.int .i64 (-1)),(8,.int .i64 (-1)),(9,.int .i64 (-1))]=some (.agg ⟨(clsR q act).map Cl.raw⟩):=Eq.trans rfl rfl
 simp only [q3,X4,ixp,Xj,Xe,ldm,eb]
 refine k1.bsl (cs:=(clsR q act).map Cl.raw) rfl (by decide) fun b2 m2 k2=>?_
 refine k2.apk2 (by omega) a1 kt9 (by omega) hf (sz:=15) rfl rfl rfl (X2k (by repeat' (first | exact trivial | exact ok_i _ _ | exact ok_b _ | exact ok_s (Nat.zero_le _) | exact ok_l _ _ | apply And.intro))) (by decide) (K:=fun m=>bp (pur (X7 false 1 (pt bn 0 0) m) m) fun x16 m =>
  bp (conv (.int .u32) (.int .i64 (q:Int)) m) fun x17 m =>
  bp (TA (d + 7) Q5s [x17] m) fun x18 m =>
  ckB (again (pur (X7 false 1 (pt bn 0 0) m) m) x16 && true)
   (bp (X9 Q1 [.string ⟨#[]⟩] 1 3 [(0,sv rmW),(1,x16),(2,x18)] m) fun x19 m =>
  bp (TA (d + 7) Q1u [pt c.P 0 0,.func (.func Q5a) ⟨[pt c.P 0 0]⟩ ⟨[]⟩,x19] m) fun x20 m =>
  some (.tuple ⟨[]⟩,m))) (fun v' m3 hg=>by
   have e:=Xd3 k2 (f:=9) (r':=12) (sz:=3) rfl (by omega) rfl (K:=(i * 3 + 1) :: [9,0]) (fun e=>by injection e with e1 e2; cases e2) hg
   simp only [e,X74,Bool.and_true,X2c,ixp,X4,Xe]
   rfl) fun cap2 m3 φ2 hc2 _ k3=>?_
 have ldn:X7 false 1 (pt bn 0 0) m3=some (sv name):=k3.ld (r:=0) (o:=0) (cs:=[sv name]) (List.mem_cons_self ..) rfl
 have hcv:conv (.int .u32) (.int .i64 (q:Int)) m3=some (.int .u32 (q:Int),m3):=by rw [c_int,IntWalk.u32_in _ (by omega)]
 have ct:TA (d + 7) Q5s [.int .u32 (q:Int)] m3=some (sv (X2a q),m3):=c_addrText q (by omega) (d + 6) m3
 simp only [ldn,X4,hcv,X6,ct,Xir,Bool.and_true,X2c]
 refine k3.bsl (cs:=[rmW,name,X2a q].map sv) rfl (by decide) fun b3 m4 k4=>?_
 have hal:=Xlz q (by omega)
 refine k4.cs (Xea k4.ps (ws:=[rmW,name,X2a q]) (k4.slx (List.mem_cons_self ..)) (by simp) (fun w hw=>by
  simp only [List.mem_cons,List.not_mem_nil,or_false] at hw
  rcases hw with rfl | rfl | rfl
  ·decide
  ·exact hnl
  ·exact hal) bAsk (by decide) (d + 5)) fun m5 k5=>?_
 exact k5.retp (by omega)
theorem Xpq (h:PS c cap m φ s) (hcb:cap + 2 ≤ 8589934592) (name:Str) (hnl:name.length ≤ 65536) (act q:Nat) (hq:q ≤ 65535) (d:Nat):PaD c cap 2 m φ s (TA (d + 8) Q7b [pt c.P 0 0,sv name,.int .u8 (act:Int),.int .i64 (q:Int)] m) (.tuple ⟨[]⟩) (Xbk s name act q):=by
 refine h.pad (X73 _ _ _ _ _ _) fun m0 k=>?_
 unfold Q3g
 refine k.new fun bn m1 k1=>?_
 have k1:W c m0 φ s cap m1 φ s [(bn,0,[sv name])]:=k1
 obtain ⟨⟨lr,hr0,hr18⟩,q2,q3,_,q5⟩:=k1.ps.dev (f:=9) (r':=12) (sz:=3) rfl (by omega) rfl
 have hbn:=(k1.lt (bn,0,[sv name]) (List.mem_cons_self ..)).2
 have hgn:=k1.at' (bn,0,[sv name]) (List.mem_cons_self ..)
 have ix:=c_ixR k1.ps (by omega) hr0 (r:=0) rfl (o:=9) (by omega) rfl name hbn hgn (d + 5)
 have ix:TA (d + 7) Q11 [slV (φ [9,0]) (nOf s.X [0] 9) 3,.func (.func Q1m) ⟨[]⟩ ⟨[pt bn 0 0]⟩] m1=some (idxV (X77 s.X [0] 9 3 0 name),m1):=ix
 unfold Q8s Q8t
 simp only [Xj,Xe,X4,Nat.zero_add,q3,ix,X6]
 unfold Q8u Xbk rowOf
 simp only [Xrr,X4,Int.toNat_natCast]
 have hi:∀ j,X77 s.X [0] 9 3 0 name=some j→j < nOf s.X [0] 9:=fun j hj=>by
  have:=X7p _ _ _ _ _ _ hj
  omega
 generalize X77 s.X [0] 9 3 0 name=i at hi ⊢
 cases i with
 | some j =>
  simp only [Option.isNone_some,Xa]
  exact cl_3 k1 (Nat.le_succ _) hcb (hi j rfl) hq hnl d
 | none =>
  simp only [Option.isNone_none,Xc]
  have ldn:X7 false 1 (pt bn 0 0) m1=some (sv name):=k1.ld (r:=0) (o:=0) (cs:=[sv name]) (List.mem_cons_self ..) rfl
  have eb:Xi Qag [(0,1),(1,1),(2,1)] [(0,sv name)]=some (.agg ⟨[sv name,.slice none 0 0,.bool false]⟩):=Eq.trans rfl rfl
  simp only [q3,X2x,X4,Xj,Xe,Nat.zero_add,ldn,eb]
  refine k1.bsl (cs:=[sv name,.slice none 0 0,.bool false]) rfl (by decide) fun b2 m2 k2=>?_
  have k2:W c m0 φ s cap m2 φ s ((b2,0,[Cl.v (sv name),.s 0 15,.v (.bool false)].map Cl.raw) :: [(bn,0,[sv name])]):=k2
  refine k2.apr (by omega) (o:=9) (by omega) (r':=12) rfl (sz:=3) rfl rfl rfl (X2k (And.intro (ok_s (Nat.le_trans hnl (by decide))) (And.intro (ok_l _ _) (And.intro (ok_b _) trivial)))) (by decide) fun cap1 m3 φ1 hc1 _ k3=>?_
  have hN:nOf s.X [0] 9 < nOf (s.app [0] 9 [.v (sv name),.s 0 15,.v (.bool false)]).X [0] 9:=by
   show _ < nOf (apF s.X [0] 9 _) [0] 9
   obtain ⟨p1,_⟩:=k1.ps.list hr0 (r:=0) rfl (o:=9) (by omega) (r':=12) rfl
   rw [Xc8 hr0 p1 _ rfl]
   unfold nOf
   rw [X88,List.getElem?_set,if_pos rfl,if_pos hr18,X8v hr0,p1]
   show nOf s.X [0] 9 < nOf s.X [0] 9 + 1
   omega
  exact cl_3 k3 hc1 hcb hN hq hnl d
theorem Xq5 (h:PS c cap m φ s) (hcb:cap + 2 ≤ 8589934592) (d:Nat):PaD c cap 1 m φ s (TA (d + 8) Q7c [pt c.P 0 0,pt c.C 0 0] m) (.tuple ⟨[]⟩) (X6x c s):=by
 refine h.pad (X6y _ _ _ _) fun m0 k=>?_
 unfold Q3h X6x
 try simp only [Xj,Xe,X4,Nat.zero_add]
 try dsimp only
 refine k.bsl (cs:=[[111,115,112,102],[98,103,112]].map sv) rfl (by decide) fun bs m1 k1=>?_
 refine k1.cl (X6d k1.ps (k1.slx (ws:=[[111,115,112,102],[98,103,112]]) (List.mem_cons_self ..)) (by simp) (d + 4)) fun m2 k2=>?_
 generalize oneC c s.cu [[111,115,112,102],[98,103,112]]=O at k2 ⊢
 have e0:bin .eql true true .int (I O.1) (.int .i64 0)=some (.bool (decide (O.1=0))):=X3q O.1 0
 simp only [e0,X4]
 refine Xn (fun hb=>?_) (fun hb=>?_)
 ·rw [if_pos (of_decide_eq_true hb)]
  have hv:=Xoi k2.ps
  rw [X29] at hv
  refine k2.cl (Xru k2.ps (d + 1)) fun m3 k3=>?_
  rw [X29] at k3 ⊢
  generalize vrfC c O.2=V at k3 hv ⊢
  refine k3.bsl (cs:=[[114,111,117,116,101,114],[111,115,112,102],V.1].map sv) rfl (by decide) fun b2 m4 k4=>?_
  refine k4.cs (Xea k4.ps (ws:=[[114,111,117,116,101,114],[111,115,112,102],V.1]) (k4.slx (List.mem_cons_self ..)) (by simp) (fun w hw=>by
   simp only [List.mem_cons,List.not_mem_nil,or_false] at hw
   rcases hw with rfl | rfl | rfl
   ·decide
   ·decide
   ·exact hv) Xek (by decide) (d + 5)) fun m5 k5=>?_
  obtain ⟨_,_,q3,_,_⟩:=k5.ps.dev (f:=10) (r':=14) (sz:=3) rfl (by omega) rfl
  have eb:Xi Qjc [(0,1),(1,1),(2,1)] [(0,sv V.1)]=some (.agg ⟨[sv V.1,u32 0,.slice none 0 0]⟩):=Eq.trans rfl rfl
  simp only [Xj,Xe,X4,Nat.zero_add,q3,eb]
  refine k5.bsl (cs:=[sv V.1,u32 0,.slice none 0 0]) rfl (by decide) fun b3 m6 k6=>?_
  have k6:W c m0 φ s cap m6 φ _ ((b3,0,[Cl.v (sv V.1),.v (u32 0),.s 0 4].map Cl.raw) :: _):=k6
  refine k6.apr (by omega) (o:=10) (by omega) (r':=14) rfl (sz:=3) rfl rfl rfl (X2k (And.intro (ok_s (Nat.le_trans hv (by decide))) (And.intro (ok_i _ _) (And.intro (ok_l _ _) trivial)))) (by decide) fun cap1 m7 φ1 hc1 _ k7=>?_
  exact k7.retp hc1
 ·rw [if_neg (of_decide_eq_false hb)]
  refine k2.cl (X15 k2.ps 1 4294967295 4294967295 rfl (by omega) (d + 1)) fun m3 k3=>?_
  rw [X29] at k3 ⊢
  have hnu:=Xbu c O.2 1 4294967295 (by omega)
  generalize Xf c O.2 1 4294967295=N at k3 hnu ⊢
  have hv:=Xoi k3.ps
  rw [X29] at hv
  refine k3.cl (Xru k3.ps (d + 1)) fun m4 k4=>?_
  rw [X29] at k4 ⊢
  generalize vrfC c N.2=V at k4 hv ⊢
  refine k4.bsl (cs:=[[114,111,117,116,101,114],[98,103,112],V.1].map sv) rfl (by decide) fun b2 m5 k5=>?_
  refine k5.cs (Xea k5.ps (ws:=[[114,111,117,116,101,114],[98,103,112],V.1]) (k5.slx (List.mem_cons_self ..)) (by simp) (fun w hw=>by
   simp only [List.mem_cons,List.not_mem_nil,or_false] at hw
   rcases hw with rfl | rfl | rfl
   ·decide
   ·decide
   ·exact hv) bBgp (by decide) (d + 5)) fun m6 k6=>?_
  obtain ⟨_,_,q3,_,_⟩:=k6.ps.dev (f:=11) (r':=16) (sz:=6) rfl (by omega) rfl
  have eb:Xi Qkb [(0,1),(1,1),(2,1),(3,1),(4,1),(5,1)] [(0,sv V.1),(1,.int .u32 N.1)]=some (.agg ⟨[sv V.1,.int .u32 N.1,u32 0,.slice none 0 0,.slice none 0 0,.slice none 0 0]⟩):=Eq.trans rfl rfl
  simp only [Xj,Xe,X4,Nat.zero_add,q3,hnu,X6,eb]
  refine k6.bsl (cs:=[sv V.1,.int .u32 N.1,u32 0,.slice none 0 0,.slice none 0 0,.slice none 0 0]) rfl (by decide) fun b3 m7 k7=>?_
  have k7:W c m0 φ s cap m7 φ _ ((b3,0,[Cl.v (sv V.1),.v (.int .u32 N.1),.v (u32 0),.s 0 2,.s 0 6,.s 0 4].map Cl.raw) :: _):=k7
  refine k7.apr (by omega) (o:=11) (by omega) (r':=16) rfl (sz:=6) rfl rfl rfl (X2k (And.intro (ok_s (Nat.le_trans hv (by decide))) (And.intro (ok_i _ _) (And.intro (ok_i _ _) (And.intro (ok_l _ _) (And.intro (ok_l _ _) (And.intro (ok_l _ _) trivial))))))) (by decide) fun cap1 m8 φ1 hc1 _ k8=>?_
  exact k8.retp hc1
end Go.Ab.Sh

set_option maxRecDepth 100000
namespace Go.Ab.Sh
open Go Go.Ab Go.Lib
variable {c:Cx} {m0 m:Mem} {φ0 φ:Phi} {s0 s s':PSt} {cap δ:Nat} {ts:List Tmp} {x:Option Rs} {Q:Value→Nat→Phi→PSt→Prop} {v:Value} {cu:Cu}
theorem kt7:kt [7,0]=some 7:=rfl
theorem kt8:kt [8,0]=some 9:=rfl
noncomputable abbrev roL (v:Str) (a:Nat) (k:Nat) (h:Nat) (d:Bool) (e t:Int):List Value:=[sv v,u32 a,I k,u32 h,.bool d,.int .i64 e,.int .i64 t]
theorem Xuj (hcb:cap + 2 ≤ 8589934592) {b:Nat} {w:Str} {a k g:Nat} {dc:Bool} {e t:Int} (hw:w.length ≤ 65536) (h:W c m0 φ s cap m φ s' ((b,0,roL w a k g dc e t) :: ts)) (d:Nat) :
  Res c m0 φ s (Q6l (d7 d) (pt c.P 0 0) (pt b 0 0) m) (Q_p cap (c.ws.length + 3) (.tuple ⟨[]⟩) (s'.app [0] 6 ((roL w a k g dc e t).map .v))):=by
 unfold Q6l
 obtain ⟨_,_,q3,_,_⟩:=h.ps.dev (f:=6) (r':=6) (sz:=7) rfl (by omega) rfl
 have ld:X7 true 7 (pt b 0 0) m=some (.agg ⟨roL w a k g dc e t⟩):=h.lds (o:=0) (List.mem_cons_self ..) (by show 0 + 7 ≤ 7; omega) rfl
 simp only [Xj,Xe,X4,Nat.zero_add,q3,ld]
 refine h.bsl (cs:=roL w a k g dc e t) rfl (by decide) fun b2 m1 k1=>?_
 have k1:W c m0 φ s cap m1 φ s' ((b2,0,((roL w a k g dc e t).map Cl.v).map Cl.raw) :: _):=k1
 refine k1.apr (by omega) (o:=6) (by omega) (r':=6) rfl (sz:=7) rfl rfl rfl (X2k (And.intro (ok_s (Nat.le_trans hw (by decide))) (And.intro (ok_i _ _) (And.intro (ok_i _ _) (And.intro (ok_i _ _) (And.intro (ok_b _) (And.intro (ok_i _ _) (And.intro (ok_i _ _) trivial)))))))) (by decide) fun cap1 m2 φ1 hc1 _ k2=>?_
 exact k2.retp (by omega)
noncomputable def roT (c:Cx) (s:PSt) (w:Str) (a k g:Nat) (dc:Bool) (e:Int):PSt:=
 let y:=isC c s.cu [116,97,103]
 let n:=Xf c y.2 0 16777216
 if y.1=true then (s.at n.2).app [0] 6 ((roL w a k g dc e n.1).map .v) else (s.at y.2).app [0] 6 ((roL w a k g dc e 0).map .v)
theorem Xu8 (hcb:cap + 2 ≤ 8589934592) {b:Nat} {w:Str} {a k g:Nat} {dc:Bool} {e:Int} (hw:w.length ≤ 65536) (h:W c m0 φ s cap m φ s' ((b,0,roL w a k g dc e 0) :: ts)) (d:Nat) :
  Res c m0 φ s (Q6m (d7 d) (pt c.C 0 0) (pt b 0 0) (pt c.P 0 0) m) (Q_p cap (c.ws.length + 3) (.tuple ⟨[]⟩) (roT c s' w a k g dc e)):=by
 unfold Q6m roT
 try dsimp only
 refine h.cl (X64 h.ps [116,97,103] (d + 5)) fun m1 k1=>?_
 refine Xn (fun hb=>?_) (fun hb=>?_)
 ·rw [if_pos hb]
  refine k1.cl (X15 k1.ps 0 16777216 16777216 rfl (by omega) (d + 1)) fun m2 k2=>?_
  try simp only [Xe,X4,Nat.zero_add]
  refine k2.sto (l1:=[]) (o:=6) (y:=.int .i64 (Xf c (isC c s'.cu [116,97,103]).2 0 16777216).1) (cs':=roL w a k g dc e (Xf c (isC c s'.cu [116,97,103]).2 0 16777216).1) rfl rfl (by show 6 + 1 ≤ 7; omega) rfl fun m3 k3=>?_
  exact Xuj hcb hw k3 d
 ·rw [if_neg (by simpa using hb)]
  exact Xuj hcb hw k1 d
noncomputable def roD (c:Cx) (s:PSt) (w:Str) (a k g:Nat) (dc:Bool):PSt:=
 let x:=isC c s.cu [100,105,115,116,97,110,99,101]
 let n:=Xf c x.2 1 255
 if x.1=true then roT c (s.at n.2) w a k g dc n.1 else roT c (s.at x.2) w a k g dc 1
theorem Xp8 (hcb:cap + 2 ≤ 8589934592) {b:Nat} {w:Str} {a k g:Nat} {dc:Bool} (hw:w.length ≤ 65536) (h:W c m0 φ s cap m φ s' ((b,0,roL w a k g dc 1 0) :: ts)) (d:Nat) :
  Res c m0 φ s (Q6n (d7 d) (pt c.C 0 0) (pt b 0 0) (pt c.P 0 0) m) (Q_p cap (c.ws.length + 3) (.tuple ⟨[]⟩) (roD c s' w a k g dc)):=by
 unfold Q6n roD
 try dsimp only
 refine h.cl (X64 h.ps [100,105,115,116,97,110,99,101] (d + 5)) fun m1 k1=>?_
 refine Xn (fun hb=>?_) (fun hb=>?_)
 ·rw [if_pos hb]
  refine k1.cl (X15 k1.ps 1 255 255 rfl (by omega) (d + 1)) fun m2 k2=>?_
  try simp only [Xe,X4,Nat.zero_add]
  refine k2.sto (l1:=[]) (o:=5) (y:=.int .i64 (Xf c (isC c s'.cu [100,105,115,116,97,110,99,101]).2 1 255).1) (cs':=roL w a k g dc (Xf c (isC c s'.cu [100,105,115,116,97,110,99,101]).2 1 255).1 0) rfl rfl (by show 5 + 1 ≤ 7; omega) rfl fun m3 k3=>?_
  exact Xu8 hcb hw k3 d
 ·rw [if_neg (by simpa using hb)]
  exact Xu8 hcb hw k1 d
noncomputable def roV (c:Cx) (s:PSt) (w:Str) (a k:Nat):PSt:=
 let x:=isC c s.cu [100,105,115,99,97,114,100]
 let h:=hopC c x.2
 if x.1=true then roD c (s.at x.2) w a k 0 true else roD c (s.at h.2) w a k h.1 false
theorem Xy0 (hcb:cap + 2 ≤ 8589934592) {b:Nat} {w:Str} {a k:Nat} (hw:w.length ≤ 65536) (h:W c m0 φ s cap m φ s' ((b,0,roL w a k 0 false 1 0) :: ts)) (d:Nat) :
  Res c m0 φ s (Q8o (d7 d) (pt c.C 0 0) (pt b 0 0) (pt c.P 0 0) m) (Q_p cap (c.ws.length + 3) (.tuple ⟨[]⟩) (roV c s' w a k)):=by
 unfold Q8o roV
 try dsimp only
 refine h.cl (X64 h.ps [100,105,115,99,97,114,100] (d + 5)) fun m1 k1=>?_
 generalize isC c s'.cu [100,105,115,99,97,114,100]=X at k1 ⊢
 try simp only [Xe,X4,Nat.zero_add]
 refine k1.sto (l1:=[]) (o:=4) (y:=.bool X.1) (cs':=roL w a k 0 X.1 1 0) rfl rfl (by show 4 + 1 ≤ 7; omega) rfl fun m2 k2=>?_
 have ld:X7 false 1 (pt b 4 0) m2=some (.bool X.1):=k2.ld (List.mem_cons_self ..) rfl
 simp only [ld,X4,X5m]
 cases hX:X.1 with
 | true =>
  rw [if_pos rfl]
  simp only [Bool.not_true,Xa]
  rw [hX] at k2
  exact Xp8 hcb hw k2 d
 | false =>
  rw [if_neg (by decide)]
  simp only [Bool.not_false,Xc]
  rw [hX] at k2
  refine k2.cl (Xun k2.ps (d + 1)) fun m3 k3=>?_
  try simp only [X29] at k3 ⊢
  try simp only [Xe,X4,Nat.zero_add]
  refine k3.sto (l1:=[]) (o:=3) (y:=u32 (hopC c X.2).1) (cs':=roL w a k (hopC c X.2).1 false 1 0) rfl rfl (by show 3 + 1 ≤ 7; omega) rfl fun m4 k4=>?_
  exact Xp8 hcb hw k4 d
theorem Xpv (c:Cx) (s:PSt):Xch c s=(let v:=vrfC c s.cu
  let a:=X1o c v.2
  let k:=X3t c a.2 false
  roV c (s.at (netC c k.2 a.1 k.1)) v.1 a.1 k.1):=by
 unfold Xch roV roD roT
 try dsimp only
 generalize vrfC c s.cu=V
 generalize X1o c V.2=A
 generalize X3t c A.2 false=M
 rw [X29]
 generalize isC c (netC c M.2 A.1 M.1) [100,105,115,99,97,114,100]=X
 by_cases hX:X.1=true
 ·by_cases hD:(isC c X.2 [100,105,115,116,97,110,99,101]).1=true
  ·by_cases hY:(isC c (Xf c (isC c X.2 [100,105,115,116,97,110,99,101]).2 1 255).2 [116,97,103]).1=true
   ·simp only [hX,hD,hY,↓reduceIte,X29,Bool.false_eq_true]; rfl
   ·simp only [hX,hD,hY,↓reduceIte,X29,Bool.false_eq_true]; rfl
  ·by_cases hY:(isC c (isC c X.2 [100,105,115,116,97,110,99,101]).2 [116,97,103]).1=true
   ·simp only [hX,hD,hY,↓reduceIte,X29,Bool.false_eq_true]; rfl
   ·simp only [hX,hD,hY,↓reduceIte,X29,Bool.false_eq_true]; rfl
 ·by_cases hD:(isC c (hopC c X.2).2 [100,105,115,116,97,110,99,101]).1=true
  ·by_cases hY:(isC c (Xf c (isC c (hopC c X.2).2 [100,105,115,116,97,110,99,101]).2 1 255).2 [116,97,103]).1=true
   ·simp only [hX,hD,hY,↓reduceIte,X29,Bool.false_eq_true]; rfl
   ·simp only [hX,hD,hY,↓reduceIte,X29,Bool.false_eq_true]; rfl
  ·by_cases hY:(isC c (isC c (hopC c X.2).2 [100,105,115,116,97,110,99,101]).2 [116,97,103]).1=true
   ·simp only [hX,hD,hY,↓reduceIte,X29,Bool.false_eq_true]; rfl
   ·simp only [hX,hD,hY,↓reduceIte,X29,Bool.false_eq_true]; rfl
theorem Xy1 {cap1:Nat} {φ1:Phi} {be i:Nat} {pm:Bool} {a k:Nat} {g e:Int} (h:W c m0 φ s cap1 m φ1 s' ((be,0,enL pm a k g e) :: ts)) (hc1:cap1 ≤ cap + 1) (hcb:cap + c.ws.length + 3 ≤ 8589934592) (hi:i < nOf s'.X [0] 7) (d:Nat) :
  Res c m0 φ s (Q5t (d7 d) (pt c.P 0 0) (I i) (pt be 0 0) m) (Q_p cap (c.ws.length + 3) (.tuple ⟨[]⟩) (s'.app [7,0] (i * 2 + 1) [.v (.bool pm),.v (u32 a),.v (I k),.v (.int .i64 g),.v (.int .i64 e)])):=by
 unfold Q5t
 obtain ⟨_,q2,q3,_,q5⟩:=h.ps.dev (f:=7) (r':=7) (sz:=2) rfl (by omega) rfl
 obtain ⟨l7,a1,a2,a3⟩:=q5 (by omega)
 have hend:=row_end (sz:=2) hi
 have hf:fdAt 7 (i * 2 + 1)=some (.l 8):=by rw [fd_row (r:=7) (sz:=2) rfl i 1 (by omega)]; rfl
 obtain ⟨_,_,ldm,_,_⟩:=h.ps.list a1 kt7 (o:=i * 2 + 1) (by omega) hf
 have ldm:X7 false 1 (pt (φ1 [7,0]).b (i * 2 + 1) (φ1 [7,0]).ver) m=some (slV (φ1 ((i * 2 + 1) :: [7,0])) (nOf s'.X [7,0] (i * 2 + 1)) 5):=ldm
 have ixp:Xb 2 (slV (φ1 [7,0]) (nOf s'.X [0] 7) 2) (I i)=some (pt (φ1 [7,0]).b (i * 2) (φ1 [7,0]).ver):=X3c _ a3 _ 2 i .i64 hi
 have lde:X7 true 5 (pt be 0 0) m=some (.agg ⟨enL pm a k g e⟩):=h.lds (o:=0) (List.mem_cons_self ..) (by show 0 + 5 ≤ 5; omega) rfl
 simp only [Xj,Xe,X4,Nat.zero_add,q3,ixp,ldm,lde]
 refine h.bsl (cs:=enL pm a k g e) rfl (by decide) fun b2 m2 k2=>?_
 have k2:W c m0 φ s cap1 m2 φ1 s' ((b2,0,[Cl.v (.bool pm),.v (u32 a),.v (I k),.v (.int .i64 g),.v (.int .i64 e)].map Cl.raw) :: _):=k2
 refine k2.apk2 (by omega) a1 kt7 (by omega) hf (sz:=5) rfl rfl rfl (X2k (And.intro (ok_b _) (And.intro (ok_i _ _) (And.intro (ok_i _ _) (And.intro (ok_i _ _) (And.intro (ok_i _ _) trivial)))))) (by decide) (K:=fun m=>some (.tuple ⟨[]⟩,m)) (fun v' m3 hg=>by
   have e:=Xd3 k2 (f:=7) (r':=7) (sz:=2) rfl (by omega) rfl (K:=(i * 2 + 1) :: [7,0]) (fun e=>by injection e with e1 e2; cases e2) hg
   simp only [e,X74,Bool.and_true,X2c,ixp,X4,Xe]) fun cap2 m3 φ2 hc2 _ k3=>?_
 exact k3.retp (by omega)
theorem cm_9 {cap1:Nat} {φ1:Phi} {bm i n:Nat} {pm:Bool} {L:Lc} {vals:List Nat} (h:W c m0 φ s cap1 m φ1 s' ((bm,0,[.bool pm,slV L n 1]) :: (L.b,L.ver,vals.map u32) :: ts)) (hLr:L.r < 2) (hn:vals.length=n) (hn0:n ≠ 0) (hnl:n ≤ c.ws.length + 1) (hc1:cap1 ≤ cap + 1) (hcb:cap + c.ws.length + 3 ≤ 8589934592) (hi:i < nOf s'.X [0] 8) (d:Nat) :
  Res c m0 φ s (Q5u (d7 d) (pt c.P 0 0) (I i) (pt bm 0 0) m) (Q_p cap (c.ws.length + 3) (.tuple ⟨[]⟩) (s'.adopt [8,0] (i * 2 + 1) [.v (.bool pm)] (vals.map u32))):=by
 unfold Q5u
 obtain ⟨_,q2,q3,_,q5⟩:=h.ps.dev (f:=8) (r':=9) (sz:=2) rfl (by omega) rfl
 obtain ⟨l8,a1,a2,a3⟩:=q5 (by omega)
 have hend:=row_end (sz:=2) hi
 have hf:fdAt 9 (i * 2 + 1)=some (.l 10):=by rw [fd_row (r:=9) (sz:=2) rfl i 1 (by omega)]; rfl
 obtain ⟨_,_,ldm,_,_⟩:=h.ps.list a1 kt8 (o:=i * 2 + 1) (by omega) hf
 have ldm:X7 false 1 (pt (φ1 [8,0]).b (i * 2 + 1) (φ1 [8,0]).ver) m=some (slV (φ1 ((i * 2 + 1) :: [8,0])) (nOf s'.X [8,0] (i * 2 + 1)) 2):=ldm
 have ixp:Xb 2 (slV (φ1 [8,0]) (nOf s'.X [0] 8) 2) (I i)=some (pt (φ1 [8,0]).b (i * 2) (φ1 [8,0]).ver):=X3c _ a3 _ 2 i .i64 hi
 have lde:X7 true 2 (pt bm 0 0) m=some (.agg ⟨[.bool pm,slV L n 1]⟩):=h.lds (o:=0) (List.mem_cons_self ..) (by show 0 + 2 ≤ 2; omega) rfl
 simp only [Xj,Xe,X4,Nat.zero_add,q3,ixp,ldm,lde]
 have hsl:slV L n 1=.slice (some ⟨L.b,0,some 1⟩) n (2 * L.ver + L.r):=if_neg hn0
 refine h.bsl (cs:=[.bool pm,slV L n 1]) (by rw [hsl]; rfl) (by decide) fun b2 m2 k2=>?_
 have k2:W c m0 φ s cap1 m2 φ1 s' ((b2,0,[.bool pm] ++ [slV L n 1]) :: (L.b,L.ver,vals.map u32) :: ts):=k2.sub (List.Sublist.cons_cons _ (List.Sublist.cons _ (List.Sublist.refl _)))
 refine k2.apo hLr (by rw [List.length_map]; exact hn) hn0 (fun v hv=>by
  obtain ⟨z,_,rfl⟩:=List.mem_map.mp hv
  exact ⟨_,rfl⟩) (by omega) a1 kt8 (by decide) (by omega) hf (sz:=2) rfl rfl rfl (X2k (And.intro (ok_b _) (And.intro (ok_l 11 0) trivial))) rfl (by decide) (K:=fun m=>some (.tuple ⟨[]⟩,m)) (fun v' m3 hg=>by
   have e:=Xd3 k2 (f:=8) (r':=9) (sz:=2) rfl (by omega) rfl (K:=(i * 2 + 1) :: [8,0]) (fun e=>by injection e with e1 e2; cases e2) hg
   simp only [e,X74,Bool.and_true,X2c,ixp,X4,Xe]) fun cap2 m3 φ2 hc2 k3=>?_
 exact k3.retp (by omega)
theorem Xna (h:PS c cap m φ s) {f r':Nat} (hf:fdAt 0 f=some (.l r')) (h18:f < 18) (cs:List Cl) (hc:cs.length=rowL r'):nOf s.X [0] f < nOf (s.app [0] f cs).X [0] f:=by
 obtain ⟨l,a,b⟩:=h.wt.root
 obtain ⟨p1,_⟩:=h.list a (r:=0) rfl (o:=f) (by omega) hf
 show _ < nOf (apF s.X [0] f cs) [0] f
 rw [Xc8 a p1 _ hc]
 have e:nOf ((s.X.set [f,0] (some (.c (X23 s.X [f,0] ++ cs)))).set [0] (some (.c (l.set f (.s (nOf s.X [0] f + 1) (rowL r')))))) [0] f=nOf s.X [0] f + 1:=by
  show (match cl _ [0] f with | .s n _=>n | _=>0)=_
  rw [X88,List.getElem?_set,if_pos rfl,if_pos (by omega)]
  rfl
 rw [e]
 omega
theorem Xz3 (h:PS c cap m φ s) (hcb:cap + c.ws.length + 3 ≤ 8589934592) (d:Nat):PaD c cap (c.ws.length + 3) m φ s (TA (d + 8) Qae [pt c.P 0 0,pt c.C 0 0] m) (.tuple ⟨[]⟩) (ipC c s):=by
 refine h.pad (Xb0 _ _ _ _) fun m0 k=>?_
 unfold Q6e
 try simp only [Xj,Xe,X4,Nat.zero_add]
 unfold Qd2
 refine k.cl (X2p k.ps (d + 5)) fun m1 k1=>?_
 unfold Qd3 ipC
 try dsimp only
 generalize (Xk c s.cu).1=w
 generalize s.at (Xk c s.cu).2=s1 at k1 ⊢
 try simp only [X1a,Qo,X4]
 unfold Qd4
 refine Xn (fun hb=>?_) (fun hb=>?_)
 ·rw [if_pos (of_decide_eq_true hb),Xpv]
  try dsimp only
  have hv:=Xoi k1.ps
  refine k1.cl (Xru k1.ps (d + 1)) fun m2 k2=>?_
  generalize vrfC c s1.cu=V at k2 hv ⊢
  have eb:Xi Qfa [(0,1),(1,2),(3,1),(4,1),(5,1),(6,1)] [(0,sv V.1),(4,.int .i64 1)]=some (.agg ⟨roL V.1 0 0 0 false 1 0⟩):=Eq.trans rfl rfl
  simp only [eb,X4]
  refine k2.new fun b m3 k3=>?_
  refine k3.sto (l1:=[]) (o:=0) (y:=.agg ⟨roL V.1 0 0 0 false 1 0⟩) (cs':=roL V.1 0 0 0 false 1 0) rfl rfl (by show 0 + 7 ≤ 7; omega) rfl fun m4 k4=>?_
  unfold Qd5
  have ha:=Xaq c V.2
  refine k4.cl (X43 k4.ps (d + 2)) fun m5 k5=>?_
  try rw [X29] at k5 ⊢
  generalize X1o c V.2=A at k5 ha ⊢
  unfold Qd6
  refine k5.cl (Xhp k5.ps false (d + 1)) fun m6 k6=>?_
  try rw [X29] at k6 ⊢
  generalize X3t c A.2 false=M at k6 ⊢
  refine k6.cl (Xod k6.ps A.1 ha (M.1:Int) (d + 4)) fun m7 k7=>?_
  try rw [X29] at k7 ⊢
  try simp only [Xe,X4,Nat.zero_add]
  refine k7.sto (l1:=[]) (o:=1) (y:=pfx A.1 (M.1:Int)) (cs':=roL V.1 A.1 M.1 0 false 1 0) rfl rfl (by show 1 + 2 ≤ 7; omega) rfl fun m8 k8=>?_
  exact Xy0 (by omega) hv k8 d
 rw [if_neg (of_decide_eq_false hb)]
 try simp only [X1a,Qo,X4]
 unfold Qd7
 refine Xn (fun hb=>?_) (fun hb=>?_)
 ·rw [if_pos (of_decide_eq_true hb)]
  have hnm:=X35 k1.ps
  refine k1.cl (X2y k1.ps (d + 2)) fun m2 k2=>?_
  generalize X1i c s1.cu=N at k2 hnm ⊢
  refine k2.bsl (cs:=[[102,105,108,116,101,114],N.1].map sv) rfl (by decide) fun b2 m3 k3=>?_
  refine k3.cs (Xea k3.ps (ws:=[[102,105,108,116,101,114],N.1]) (k3.slx (List.mem_cons_self ..)) (by simp) (fun w hw=>by
   simp only [List.mem_cons,List.not_mem_nil,or_false] at hw
   rcases hw with rfl | rfl
   ·decide
   ·exact hnm) Xd4 (by decide) (d + 5)) fun m4 k4=>?_
  obtain ⟨_,_,q3,_,_⟩:=k4.ps.dev (f:=4) (r':=3) (sz:=2) rfl (by omega) rfl
  have eb:Xi Qhr [(0,1),(1,1)] [(0,sv N.1)]=some (.agg ⟨[sv N.1,.slice none 0 0]⟩):=Eq.trans rfl rfl
  simp only [Xj,Xe,X4,Nat.zero_add,q3,eb]
  refine k4.bsl (cs:=[sv N.1,.slice none 0 0]) rfl (by decide) fun b3 m5 k5=>?_
  have k5:W c m0 φ s cap m5 φ _ ((b3,0,[Cl.v (sv N.1),.s 0 10].map Cl.raw) :: _):=k5
  refine k5.apr (by omega) (o:=4) (by omega) (r':=3) rfl (sz:=2) rfl rfl rfl (X2k (And.intro (ok_s (Nat.le_trans hnm (by decide))) (And.intro (ok_l _ _) trivial))) (by decide) fun cap1 m6 φ1 hc1 _ k6=>?_
  exact k6.retp (by omega)
 rw [if_neg (of_decide_eq_false hb)]
 try simp only [X1a,Qo,X4]
 unfold Qbq
 refine Xn (fun hb=>?_) (fun hb=>?_)
 ·rw [if_pos (of_decide_eq_true hb)]
  have hnm:=X35 k1.ps
  refine k1.cl (X2y k1.ps (d + 2)) fun m2 k2=>?_
  generalize X1i c s1.cu=N at k2 hnm ⊢
  refine k2.new fun bn m3 k3=>?_
  refine k3.sto (l1:=[]) (o:=0) (y:=sv N.1) (cs':=[sv N.1]) rfl rfl (by show 0 + 1 ≤ 1; omega) rfl fun m4 k4=>?_
  unfold Qbr
  refine k4.cl (Xtk k4.ps d) fun m5 k5=>?_
  try rw [X29] at k5 ⊢
  generalize X54 c N.2=E at k5 ⊢
  refine k5.new fun be m6 k6=>?_
  refine k6.sto (l1:=[]) (o:=0) (y:=enV E.1.1 E.1.2.1 E.1.2.2.1 E.1.2.2.2.1 E.1.2.2.2.2) (cs':=enL E.1.1 E.1.2.1 E.1.2.2.1 E.1.2.2.2.1 E.1.2.2.2.2) rfl rfl (by show 0 + 5 ≤ 5; omega) rfl fun m7 k7=>?_
  unfold Qbs
  have hx:((s1.at N.2).at E.2).X=s1.X:=rfl
  generalize hS:(s1.at N.2).at E.2=S at k7 hx
  have hS':s1.at E.2=S:=by rw [← hS]; rfl
  rw [hS']
  obtain ⟨⟨lr,hr0,hr18⟩,q2,q3,_,q5⟩:=k7.ps.dev (f:=7) (r':=7) (sz:=2) rfl (by omega) rfl
  have hbn:=(k7.lt (bn,0,[sv N.1]) (by simp)).2
  have hgn:=k7.at' (bn,0,[sv N.1]) (by simp)
  have ix:=c_ixP k7.ps (by omega) hr0 (r:=0) rfl (o:=7) (by omega) rfl N.1 hbn hgn (d + 5)
  have ix:TA (d + 7) Qm [slV (φ [7,0]) (nOf S.X [0] 7) 2,.func (.func Q28) ⟨[]⟩ ⟨[pt bn 0 0]⟩] m7=some (idxV (X77 S.X [0] 7 2 0 N.1),m7):=ix
  simp only [Xj,Xe,X4,Nat.zero_add,q3,ix,X6]
  unfold Qbt rowOf
  simp only [Xrr,X4]
  have hi:∀ j,X77 S.X [0] 7 2 0 N.1=some j→j < nOf S.X [0] 7:=fun j hj=>by
   have:=X7p _ _ _ _ _ _ hj
   omega
  generalize X77 S.X [0] 7 2 0 N.1=i at hi ⊢
  cases i with
  | some j =>
   simp only [Option.isNone_some,Xa]
   exact Xy1 k7 (Nat.le_succ _) hcb (hi j rfl) d
  | none =>
   simp only [Option.isNone_none,Xc]
   have ldn:X7 false 1 (pt bn 0 0) m7=some (sv N.1):=k7.ld (r:=0) (o:=0) (cs:=[sv N.1]) (by simp) rfl
   have eb:Xi Qf6 [(0,1),(1,1)] [(0,sv N.1)]=some (.agg ⟨[sv N.1,.slice none 0 0]⟩):=Eq.trans rfl rfl
   simp only [q3,X2x,X4,Xj,Xe,Nat.zero_add,ldn,eb]
   refine k7.bsl (cs:=[sv N.1,.slice none 0 0]) rfl (by decide) fun b2 m8 k8=>?_
   have k8:W c m0 φ s cap m8 φ S ((b2,0,[Cl.v (sv N.1),.s 0 5].map Cl.raw) :: _):=k8
   refine k8.apr (by omega) (o:=7) (by omega) (r':=7) rfl (sz:=2) rfl rfl rfl (X2k (And.intro (ok_s (Nat.le_trans hnm (by decide))) (And.intro (ok_l _ _) trivial))) (by decide) fun cap1 m9 φ1 hc1 _ k9=>?_
   exact Xy1 k9 hc1 hcb (Xna k7.ps rfl (by omega) _ rfl) d
 rw [if_neg (of_decide_eq_false hb)]
 try simp only [X1a,Qo,X4]
 unfold Qbu
 refine Xn (fun hb=>?_) (fun hb=>?_)
 ·rw [if_pos (of_decide_eq_true hb)]
  have hnm:=X35 k1.ps
  refine k1.cl (X2y k1.ps (d + 2)) fun m2 k2=>?_
  generalize X1i c s1.cu=N at k2 hnm ⊢
  refine k2.new fun bn m3 k3=>?_
  refine k3.sto (l1:=[]) (o:=0) (y:=sv N.1) (cs':=[sv N.1]) rfl rfl (by show 0 + 1 ≤ 1; omega) rfl fun m4 k4=>?_
  unfold Qbv
  refine k4.bsl (cs:=[[112,101,114,109,105,116],[100,101,110,121]].map sv) rfl (by decide) fun bs m5 k5=>?_
  refine k5.cl (X6d k5.ps (k5.slx (ws:=[[112,101,114,109,105,116],[100,101,110,121]]) (List.mem_cons_self ..)) (by simp) (d + 4)) fun m6 k6=>?_
  try rw [X29] at k6 ⊢
  generalize oneC c N.2 [[112,101,114,109,105,116],[100,101,110,121]]=O at k6 ⊢
  have k6:=k6.tl
  have e0:bin .eql true true .int (I O.1) (.int .i64 0)=some (.bool (decide (O.1=0))):=X3q O.1 0
  simp only [e0,X4]
  generalize decide (O.1=0)=pm
  obtain ⟨L,m7,e7,k7,hLr⟩:=Xm9 k6.ps (d + 3)
  have e7:TA (d + 7) Q2v [pt c.C 0 0] m6=some (slV L (X20 c (c.ws.length + 1) O.2).1.length 1,m7):=e7
  have k7:W c m0 φ s cap m7 φ (((s1.at N.2).at O.2).at (X20 c (c.ws.length + 1) O.2).2) [(L.b,L.ver,(X20 c (c.ws.length + 1) O.2).1.map u32),(bn,0,[sv N.1])]:=k6.join k7
  have hlen:=Xbe c (c.ws.length + 1) O.2
  have hne:=Xdw c c.ws.length O.2
  rw [e7,X6]
  generalize X20 c (c.ws.length + 1) O.2=M at k7 hlen hne ⊢
  have hsl:slV L M.1.length 1=.slice (some ⟨L.b,0,some 1⟩) M.1.length (2 * L.ver + L.r):=if_neg hne
  have eb:Xi Qfb [(0,1),(1,1)] [(0,.bool pm),(1,slV L M.1.length 1)]=some (.agg ⟨[.bool pm,slV L M.1.length 1]⟩):=by rw [hsl]; exact Eq.trans rfl rfl
  simp only [eb,X4]
  refine k7.new fun bm m8 k8=>?_
  refine k8.sto (l1:=[]) (o:=0) (y:=.agg ⟨[.bool pm,slV L M.1.length 1]⟩) (cs':=[.bool pm,slV L M.1.length 1]) rfl (by rw [hsl]; rfl) (by show 0 + 2 ≤ 2; omega) rfl fun m9 k9=>?_
  unfold Qbw
  generalize hS:((s1.at N.2).at O.2).at M.2=S at k9
  have hS':s1.at M.2=S:=by rw [← hS]; rfl
  rw [hS']
  obtain ⟨⟨lr,hr0,hr18⟩,q2,q3,_,q5⟩:=k9.ps.dev (f:=8) (r':=9) (sz:=2) rfl (by omega) rfl
  have hbn:=(k9.lt (bn,0,[sv N.1]) (by simp)).2
  have hgn:=k9.at' (bn,0,[sv N.1]) (by simp)
  have ix:=c_ixC k9.ps (by omega) hr0 (r:=0) rfl (o:=8) (by omega) rfl N.1 hbn hgn (d + 5)
  have ix:TA (d + 7) Qj [slV (φ [8,0]) (nOf S.X [0] 8) 2,.func (.func Q29) ⟨[]⟩ ⟨[pt bn 0 0]⟩] m9=some (idxV (X77 S.X [0] 8 2 0 N.1),m9):=ix
  simp only [Xj,Xe,X4,Nat.zero_add,q3,ix,X6]
  unfold Qbx rowOf
  simp only [Xrr,X4]
  have hi:∀ j,X77 S.X [0] 8 2 0 N.1=some j→j < nOf S.X [0] 8:=fun j hj=>by
   have:=X7p _ _ _ _ _ _ hj
   omega
  generalize X77 S.X [0] 8 2 0 N.1=i at hi ⊢
  cases i with
  | some j =>
   simp only [Option.isNone_some,Xa]
   exact cm_9 k9 hLr rfl hne hlen (Nat.le_succ _) hcb (hi j rfl) d
  | none =>
   simp only [Option.isNone_none,Xc]
   have ldn:X7 false 1 (pt bn 0 0) m9=some (sv N.1):=k9.ld (r:=0) (o:=0) (cs:=[sv N.1]) (by simp) rfl
   have eb:Xi Qd8 [(0,1),(1,1)] [(0,sv N.1)]=some (.agg ⟨[sv N.1,.slice none 0 0]⟩):=Eq.trans rfl rfl
   simp only [q3,X2x,X4,Xj,Xe,Nat.zero_add,ldn,eb]
   refine k9.bsl (cs:=[sv N.1,.slice none 0 0]) rfl (by decide) fun b2 m10 k10=>?_
   have k10:W c m0 φ s cap m10 φ S ((b2,0,[Cl.v (sv N.1),.s 0 2].map Cl.raw) :: _):=k10
   refine k10.apr (by omega) (o:=8) (by omega) (r':=9) rfl (sz:=2) rfl rfl rfl (X2k (And.intro (ok_s (Nat.le_trans hnm (by decide))) (And.intro (ok_l _ _) trivial))) (by decide) fun cap1 m11 φ1 hc1 _ k11=>?_
   exact cm_9 k11 hLr rfl hne hlen hc1 hcb (Xna k9.ps rfl (by omega) _ rfl) d
 rw [if_neg (of_decide_eq_false hb)]
 try simp only [X1a,Qo,X4]
 refine Xn (fun hb=>?_) (fun hb=>?_)
 ·rw [if_pos (of_decide_eq_true hb)]
  refine k1.bsl (cs:=[[115,111,117,114,99,101],[100,101,115,116,105,110,97,116,105,111,110]].map sv) rfl (by decide) fun bs m2 k2=>?_
  refine k2.cl (X6d k2.ps (k2.slx (ws:=[[115,111,117,114,99,101],[100,101,115,116,105,110,97,116,105,111,110]]) (List.mem_cons_self ..)) (by simp) (d + 4)) fun m3 k3=>?_
  generalize oneC c s1.cu [[115,111,117,114,99,101],[100,101,115,116,105,110,97,116,105,111,110]]=O at k3 ⊢
  have e0:bin .eql true true .int (I O.1) (.int .i64 1)=some (.bool (decide (O.1=1))):=X3q O.1 1
  generalize decide (O.1=1)=ds at e0 ⊢
  have eb:Xi Qez [(0,1),(1,1),(2,1)] [(0,.bool ds)]=some (.agg ⟨[.bool ds,sv [],u32 0]⟩):=Eq.trans rfl rfl
  simp only [e0,eb,X4]
  refine k3.new fun b m4 k4=>?_
  refine k4.sto (l1:=[]) (o:=0) (y:=.agg ⟨[.bool ds,sv [],u32 0]⟩) (cs':=[.bool ds,sv [],u32 0]) rfl rfl (by show 0 + 3 ≤ 3; omega) rfl fun m5 k5=>?_
  refine k5.cl (Xqw k5.ps [102,105,108,116,101,114] (d + 4)) fun m6 k6=>?_
  have e1:(s1.at O.2).cu=O.2:=rfl
  try rw [e1] at k6
  try rw [e1]
  have hnm:=X35 k6.ps
  rw [X29] at hnm
  refine k6.cl (X2y k6.ps (d + 2)) fun m7 k7=>?_
  try rw [X29] at k7 ⊢
  generalize X1i c (Xgd c O.2 [102,105,108,116,101,114])=N at k7 hnm ⊢
  try simp only [Xe,X4,Nat.zero_add]
  refine k7.sto (l1:=[]) (o:=1) (y:=sv N.1) (cs':=[.bool ds,sv N.1,u32 0]) rfl rfl (by show 1 + 1 ≤ 3; omega) rfl fun m8 k8=>?_
  refine k8.cl (Xqw k8.ps [116,111] (d + 4)) fun m9 k9=>?_
  have e2:(((s1.at O.2).at (Xgd c O.2 [102,105,108,116,101,114])).at N.2).cu=N.2:=rfl
  try rw [e2] at k9
  try rw [e2]
  try rw [X29] at k9 ⊢
  refine k9.cl (X43 k9.ps (d + 2)) fun m10 k10=>?_
  try rw [X29] at k10 ⊢
  generalize X1o c (Xgd c N.2 [116,111])=A at k10 ⊢
  refine k10.sto (l1:=[]) (o:=2) (y:=u32 A.1) (cs':=[.bool ds,sv N.1,u32 A.1]) rfl rfl (by show 2 + 1 ≤ 3; omega) rfl fun m11 k11=>?_
  obtain ⟨_,_,q3,_,_⟩:=k11.ps.dev (f:=5) (r':=5) (sz:=3) rfl (by omega) rfl
  have ld:X7 true 3 (pt b 0 0) m11=some (.agg ⟨[.bool ds,sv N.1,u32 A.1]⟩):=k11.lds (o:=0) (List.mem_cons_self ..) (by show 0 + 3 ≤ 3; omega) rfl
  simp only [Xj,Xe,X4,Nat.zero_add,q3,ld]
  refine k11.bsl (cs:=[.bool ds,sv N.1,u32 A.1]) rfl (by decide) fun b2 m12 k12=>?_
  have k12:W c m0 φ s cap m12 φ _ ((b2,0,[Cl.v (.bool ds),.v (sv N.1),.v (u32 A.1)].map Cl.raw) :: _):=k12
  refine k12.apr (by omega) (o:=5) (by omega) (r':=5) rfl (sz:=3) rfl rfl rfl (X2k (And.intro (ok_b _) (And.intro (ok_s (Nat.le_trans hnm (by decide))) (And.intro (ok_i _ _) trivial)))) (by decide) fun cap1 m13 φ1 hc1 _ k13=>?_
  exact k13.retp (by omega)
 ·rw [if_neg (of_decide_eq_false hb)]
  exact (k1.badr 130 (by decide) (d + 5) rfl).pd
end Go.Ab.Sh

set_option maxRecDepth 100000
namespace Go.Ab.Sh
open Go Go.Ab Go.Lib
variable {c:Cx} {m0 m:Mem} {φ0 φ:Phi} {s0 s s':PSt} {cap δ:Nat} {ts:List Tmp} {x:Option Rs} {Q:Value→Nat→Phi→PSt→Prop} {v:Value} {cu:Cu}
theorem Xwz {ws:List Str} (h:∀ w ∈ ws,w.length ≤ 65536) (hn:ws.length ≤ 16):(X2i [32] ws).length ≤ 140737488355328:=by
 have:=Xcr 65536 ws h
 exact Nat.le_trans this (Nat.le_trans (Nat.mul_le_mul_right _ hn) (by decide))
theorem PaD.ret (h:W c m0 φ s cap m φ s' []) {y:Option Rs} {w:Value} {S:PSt} {δ':Nat} (law:PaD c cap δ m φ s' y w S) (hd:δ ≤ δ'):Res c m0 φ s (bp y fun _ m=>some (.tuple ⟨[]⟩,m)) (Q_p cap δ' (.tuple ⟨[]⟩) S):=
 h.pd law fun cap1 m1 φ1 hc1 k1=>k1.retp (by omega)
theorem Xyg (h:PS c cap m φ s) (hcb:cap + c.ws.length + 3 ≤ 8589934592) (d:Nat):PaD c cap (c.ws.length + 3) m φ s (TA (d + 9) Q75 [pt c.P 0 0,pt c.C 0 0] m) (.tuple ⟨[]⟩) (topC c s):=by
 refine h.pad (Xaj _ _ _ _) fun m0 k=>?_
 unfold Q5c
 try simp only [Xj,Xe,X4,Nat.zero_add]
 refine k.cl (X2p k.ps (d + 6)) fun m1 k1=>?_
 unfold topC
 try dsimp only
 generalize (Xk c s.cu).1=w
 generalize s.at (Xk c s.cu).2=s1 at k1 ⊢
 try simp only [X1a,Qo,X4]
 refine Xn (fun hb=>?_) (fun hb=>?_)
 ·rw [if_pos (of_decide_eq_true hb)]
  have hnm:=X35 k1.ps
  refine k1.cl (X2y k1.ps (d + 3)) fun m2 k2=>?_
  generalize X1i c s1.cu=N at k2 hnm ⊢
  try simp only [Xj,Xe,X4,Nat.zero_add]
  refine k2.str1 (o:=0) (x:=sv N.1) rfl rfl (by omega) (.inl (by omega)) (by show okc (fdAt 0 0) _; exact ok_s (Nat.le_trans hnm (by decide))) fun m3 k3=>?_
  refine k3.bsl (cs:=[[104,111,115,116,110,97,109,101]].map sv) rfl (by decide) fun b2 m4 k4=>?_
  refine k4.cs (Xab k4.ps (ws:=[[104,111,115,116,110,97,109,101]]) (k4.slx (List.mem_cons_self ..)) (by decide) (by decide) (d + 7)) fun m5 k5=>?_
  exact k5.retp (by omega)
 rw [if_neg (of_decide_eq_false hb)]
 try simp only [X1a,Qo,X4]
 refine Xn (fun hb=>?_) (fun hb=>?_)
 ·rw [if_pos (of_decide_eq_true hb)]
  have hnm:=X35 k1.ps
  refine k1.cl (X2y k1.ps (d + 3)) fun m2 k2=>?_
  generalize X1i c s1.cu=N at k2 hnm ⊢
  refine k2.bsl (cs:=[[118,114,102],N.1].map sv) rfl (by decide) fun b2 m3 k3=>?_
  have hl:∀ w ∈ [[118,114,102],N.1],w.length ≤ 65536:=fun w hw=>by
   simp only [List.mem_cons,List.not_mem_nil,or_false] at hw
   rcases hw with rfl | rfl
   ·decide
   ·exact hnm
  refine k3.cs (Xab k3.ps (ws:=[[118,114,102],N.1]) (k3.slx (List.mem_cons_self ..)) (by simp) (Xwz hl (by simp)) (d + 7)) fun m4 k4=>?_
  obtain ⟨_,_,q3,_,_⟩:=k4.ps.dev (f:=2) (r':=1) (sz:=1) rfl (by omega) rfl
  simp only [Xj,Xe,X4,Nat.zero_add,q3]
  refine k4.bsl (cs:=[sv N.1]) rfl (by decide) fun b3 m5 k5=>?_
  have k5:W c m0 φ s cap m5 φ _ ((b3,0,[Cl.v (sv N.1)].map Cl.raw) :: _):=k5
  refine k5.apr (by omega) (o:=2) (by omega) (r':=1) rfl (sz:=1) rfl rfl rfl (X2k (And.intro (ok_s (Nat.le_trans hnm (by decide))) trivial)) (by decide) fun cap1 m6 φ1 hc1 _ k6=>?_
  exact k6.retp (by omega)
 rw [if_neg (of_decide_eq_false hb)]
 try simp only [X1a,Qo,X4]
 refine Xn (fun hb=>?_) (fun hb=>?_)
 ·rw [if_pos (of_decide_eq_true hb)]
  have hnm:=X35 k1.ps
  refine k1.cl (X2y k1.ps (d + 3)) fun m2 k2=>?_
  generalize X1i c s1.cu=N at k2 hnm ⊢
  refine k2.bsl (cs:=[[105,110,116,101,114,102,97,99,101],N.1].map sv) rfl (by decide) fun b2 m3 k3=>?_
  refine k3.cs (Xea k3.ps (ws:=[[105,110,116,101,114,102,97,99,101],N.1]) (k3.slx (List.mem_cons_self ..)) (by simp) (fun w hw=>by
   simp only [List.mem_cons,List.not_mem_nil,or_false] at hw
   rcases hw with rfl | rfl
   ·decide
   ·exact hnm) X76 (by decide) (d + 6)) fun m4 k4=>?_
  obtain ⟨_,_,q3,_,_⟩:=k4.ps.dev (f:=3) (r':=2) (sz:=11) rfl (by omega) rfl
  have eb:Xi Qih [(0,1),(1,1),(2,1),(3,1),(4,1),(5,1),(6,1),(7,1),(8,1),(9,1),(10,1)] [(0,sv N.1),(8,.int .i64 (-1)),(9,.int .i64 10)]=some (.agg ⟨[sv N.1,sv [],u32 0,I 0,.bool false,sv [],sv [],.int .u8 0,.int .i64 (-1),I 10,.bool false]⟩):=Eq.trans rfl rfl
  simp only [Xj,Xe,X4,Nat.zero_add,q3,eb]
  refine k4.bsl (cs:=[sv N.1,sv [],u32 0,I 0,.bool false,sv [],sv [],.int .u8 0,.int .i64 (-1),I 10,.bool false]) rfl (by decide) fun b3 m5 k5=>?_
  have k5:W c m0 φ s cap m5 φ _ ((b3,0,[Cl.v (sv N.1),.v (sv []),.v (u32 0),.v (I 0),.v (.bool false),.v (sv []),.v (sv []),.v (.int .u8 0),.v (.int .i64 (-1)),.v (I 10),.v (.bool false)].map Cl.raw) :: _):=k5
  refine k5.apr (by omega) (o:=3) (by omega) (r':=2) rfl (sz:=11) rfl rfl rfl (X2k (by repeat' (first | exact trivial | exact ok_i _ _ | exact ok_b _ | exact ok_s (Nat.le_trans hnm (by decide)) | exact ok_s (Nat.zero_le _) | apply And.intro))) (by decide) fun cap1 m6 φ1 hc1 _ k6=>?_
  exact k6.retp (by omega)
 rw [if_neg (of_decide_eq_false hb)]
 try simp only [X1a,Qo,X4]
 refine Xn (fun hb=>?_) (fun hb=>?_)
 ·rw [if_pos (of_decide_eq_true hb)]
  exact PaD.ret k1 (Xz3 k1.ps hcb d) (Nat.le_refl _)
 rw [if_neg (of_decide_eq_false hb)]
 try simp only [X1a,Qo,X4]
 refine Xn (fun hb=>?_) (fun hb=>?_)
 ·rw [if_pos (of_decide_eq_true hb)]
  have hnm:=X35 k1.ps
  refine k1.cl (X2y k1.ps (d + 3)) fun m2 k2=>?_
  generalize X1i c s1.cu=N at k2 hnm ⊢
  refine k2.bsl (cs:=[.int .u8 1,.int .u8 0,.int .u8 2]) rfl (by decide) fun bb m3 k3=>?_
  refine k3.bsl (cs:=[[112,101,114,109,105,116],[100,101,110,121],[110,101,120,116]].map sv) rfl (by decide) fun bs m4 k4=>?_
  have lt:=Xg7 c N.2 [[112,101,114,109,105,116],[100,101,110,121],[110,101,120,116]] (by simp)
  refine k4.cl (X6d k4.ps (k4.slx (ws:=[[112,101,114,109,105,116],[100,101,110,121],[110,101,120,116]]) (List.mem_cons_self ..)) (by simp) (d + 5)) fun m5 k5=>?_
  rw [X29] at k5 ⊢
  generalize oneC c N.2 [[112,101,114,109,105,116],[100,101,110,121],[110,101,120,116]]=O at k5 lt ⊢
  have lt:O.1 < 3:=lt
  have ix:Xb 1 (.slice (some ⟨bb,0,some 1⟩) 3 1) (I O.1)=some (pt bb (O.1 * 1) 0):=X3c ⟨bb,0,1⟩ (by show 1 < 2; omega) 3 1 O.1 .i64 lt
  have ldx:X7 false 1 (pt bb (O.1 * 1) 0) m5=some (.int .u8 ((if O.1=0 then 1 else if O.1=1 then 0 else 2:Nat):Int)):=k5.ld (List.mem_cons_of_mem _ (List.mem_cons_self ..)) (by
   have:O.1=0∨O.1=1∨O.1=2:=by omega
   rcases this with e | e | e <;> rw [e] <;> rfl)
  simp only [ix,X4,ldx]
  refine k5.cl (X15 k5.ps 1 65535 65535 rfl (by omega) (d + 2)) fun m6 k6=>?_
  rw [X29] at k6 ⊢
  have hrng:=X93 c O.2 1 65535
  generalize Xf c O.2 1 65535=Z at k6 hrng ⊢
  obtain ⟨z,hz⟩:∃ z:Nat,Z.1=(z:Int):=⟨Z.1.toNat,(Int.toNat_of_nonneg hrng.1).symm⟩
  rw [hz] at hrng ⊢
  have k6:=k6.sub (ts':=[]) (List.nil_sublist _)
  exact PaD.ret k6 (Xpq k6.ps (by omega) N.1 hnm _ z (by omega) d) (by omega)
 rw [if_neg (of_decide_eq_false hb)]
 try simp only [X1a,Qo,X4]
 refine Xn (fun hb=>?_) (fun hb=>?_)
 ·rw [if_pos (of_decide_eq_true hb)]
  exact PaD.ret k1 (Xq5 k1.ps (by omega) d) (by omega)
 ·rw [if_neg (of_decide_eq_false hb)]
  exact (k1.badr 130 (by decide) (d + 6) rfl).pd
end Go.Ab.Sh

set_option maxRecDepth 100000
namespace Go.Ab.Sh
open Go Go.Ab Go.Lib
noncomputable def isSp (b:UInt8):Bool:=decide (b=32)
noncomputable def trimS (s:Str):Str:=s.dropWhile isSp
theorem Xap (s:Str):(trimS s).length ≤ s.length:=by
 unfold trimS
 induction s with
 | nil=>exact Nat.le_refl _
 | cons a l ih =>
  rw [List.dropWhile_cons]
  split
  ·exact Nat.le_trans ih (Nat.le_succ _)
  ·exact Nat.le_refl _
theorem Xx4 (a:UInt8) (l:Str):X11 (sv (a :: l)) (some (.int .i64 1)) none=some (sv l):=Xa8 (a :: l) 1 (by simp)
theorem Xjd (G:Gt) (m:Mem):∀ (s:Str) (f:Nat),s.length < f→Q1h G f (sv s) (.int .u8 32) m=some (sv (trimS s),m)
 | [],f + 1,h=>by
  unfold Q1h
  have e1:bin .gtr true true .int (.int .i64 (([]:Str).length:Int)) (.int .i64 0)=some (.bool false):=by rw [Qby]; rfl
  simp only [X3r,X4,e1,Xa]
  unfold Q3q
  rw [Xa]
  unfold Q5v
  rfl
 | a :: l,f + 1,h=>by
  have hl:l.length < f:=by simp at h; omega
  unfold Q1h
  have e1:bin .gtr true true .int (.int .i64 ((a :: l).length:Int)) (.int .i64 0)=some (.bool true):=by rw [Qby,decide_eq_true (by rw [List.length_cons]; omega)]
  have e2:Xh (sv (a :: l)) (.int .i64 0)=some (.int .u8 (a.toNat:Int)):=X6c (a :: l) .i64 0 (by simp)
  have e3:bin .eql false true .int (.int .u8 (a.toNat:Int)) (.int .u8 32)=some (.bool (isSp a)):=by
   rw [Q3y]
   unfold isSp
   congr 2
   rw [decide_eq_decide]
   constructor
   ·intro e
    apply UInt8.toNat_inj.mp
    show a.toNat=32
    omega
   ·rintro rfl; rfl
  simp only [X3r,X4,e1,Xc,e2,e3]
  unfold Q3q trimS
  rw [List.dropWhile_cons]
  cases isSp a with
  | true =>
   rw [Xc,Xx4,X4,if_pos rfl]
   exact Xjd G m l f hl
  | false =>
   rw [Xa,if_neg (by decide)]
   unfold Q5v
   rfl
theorem c_TrimLeft (s:Str) (hs:s.length ≤ 4194304) (d:Nat) (m:Mem):TA (d + 2) Q3r [sv s,sv [32]] m=some (sv (trimS s),m):=by
 have hb:∀ m,TA (d + 1) Q4q [sv s,.int .u8 32] m=some (sv (trimS s),m):=fun m=>by
  rw [X6h]
  refine X1l (m1:=withLow m m.next) ?_ (Fr.refl _ _) rfl
  unfold Q32 Q8f
  exact Xjd _ _ s 18446744073709551616 (by omega)
 rw [X9u]
 refine X1l (m1:=withLow m m.next) ?_ (Fr.refl _ _) rfl
 generalize withLow m m.next=m0
 unfold Q5d Qbz
 have e0:bin .eql true true .str (sv [32]) (.string ⟨#[]⟩)=some (.bool false):=Qo _ _ _ []
 have e1:bin .eql true true .str (sv s) (.string ⟨#[]⟩)=some (.bool (decide (s=[]))):=Qo _ _ _ []
 simp only [e0,e1,X4]
 by_cases h:s=[]
 ·subst h
  rw [decide_eq_true rfl,Xc]
  unfold Q5w
  rw [Xc]
  rfl
 ·rw [decide_eq_false h,Xa]
  unfold Q5w
  rw [Xa]
  unfold Qc0
  have e2:bin .eql true true .int (.int .i64 (([32]:Str).length:Int)) (.int .i64 1)=some (.bool true):=by rw [Q3y]; rfl
  have e3:Xh (sv [32]) (.int .i64 0)=some (.int .u8 32):=X6c [32] .i64 0 (by simp)
  have e4:bin .lss true true .int (.int .u8 32) (.int .u8 128)=some (.bool true):=by rw [Qw]; rfl
  simp only [X3r,X4,e2,Xc,e3,e4]
  unfold Q80
  simp only [Xc,e3,X4,hb,X6]
noncomputable def X4i (n:Nat):Nat→Str→List Wd
 | 0,_=>[]
 | f + 1,rest=>if rest=[] then [] else ((cutO 32 rest).1,n - rest.length + 1) :: X4i n f (trimS (cutO 32 rest).2.1)
noncomputable def rowP (row:Str):Option (Nat × List Wd):=
 let rest:=trimS row
 if rest=[]∨rest.head?=some 33 then none else some (row.length - rest.length,X4i row.length (row.length + 1) rest)
noncomputable def X33 (ln:Nat) (ws:List Wd):List Value:=ws.flatMap fun w=>[sv w.1,I ln,I w.2]
theorem Xfv (ln:Nat) (ws:List Wd):(X33 ln ws).length=ws.length * 3:=by
 unfold X33
 induction ws with
 | nil=>rfl
 | cons w l ih=>rw [List.flatMap_cons,List.length_append,ih,List.length_cons]; simp; omega
theorem Xo1 (ln:Nat) (a b:List Wd):X33 ln (a ++ b)=X33 ln a ++ X33 ln b:=by unfold X33; exact List.flatMap_append
theorem Xq8 {rest:Str} (h:rest ≠ []):(cutO 32 rest).2.1.length < rest.length:=by
 unfold cutO
 cases hc:cut 32 rest with
 | none=>exact List.length_pos_iff.mpr h
 | some p =>
  have:=X9d hc
  show p.2.length < rest.length
  omega
noncomputable def WsAt (B:Nat) (m:Mem) (ln:Nat) (L:Lc) (ws:List Wd):Prop:=ws ≠ []→B ≤ L.b∧L.b < m.next∧L.r < 2∧∃ ty,m.get L.b=some (.cells (X33 ln ws) L.ver 0 false ty)
theorem Xf4 (d:Nat) (k0:Value→Value→Value→Value→Value→Mem→Option Rs) (row:Str) (hrow:row.length ≤ 4194304) (i bl:Nat) (ind:Nat) (hi:i ≤ 4194304) (p7 p28 p27 p26 p3:Value):∀ (f F:Nat) (rest:Str) (ws:List Wd) (L:Lc) (m:Mem),rest.length < f→rest.length < F→rest.length ≤ row.length→ws.length + rest.length ≤ 4194304 →
  (∃ ty,m.get bl=some (.cells [I ind,slV L ws.length 3] 0 0 false ty))→bl < m.next→WsAt (bl + 1) m (i + 1) L ws →
  ∃ m' L',Qah ⟨TA (d + 3),18446744073709551616⟩ k0 F (sv rest) (sv row) (pt bl 0 0) (I i) p7 p28 p27 p26 p3 m=Qea ⟨TA (d + 3),18446744073709551616⟩ k0 p7 (pt bl 0 0) p28 p27 p26 p3 m' ∧
   (∃ ty,m'.get bl=some (.cells [I ind,slV L' (ws ++ X4i row.length f rest).length 3] 0 0 false ty))∧WsAt (bl + 1) m' (i + 1) L' (ws ++ X4i row.length f rest)∧Fb bl m m'
 | f + 1,F + 1,rest,ws,L,m,h1,h2,h3,h4,hbl,hlt,hws=>by
  unfold Qah X4i
  have e0:bin .neq true true .str (sv rest) (.string ⟨#[]⟩)=some (.bool (decide (rest ≠ []))):=Qkc _ _ _ []
  simp only [e0,X4]
  by_cases hr:rest=[]
  ·rw [decide_eq_false (fun h=>h hr),Xa,if_pos hr,List.append_nil]
   exact ⟨m,L,rfl,hbl,hws,.refl _ _⟩
  ·rw [decide_eq_true hr,Xc,if_neg hr]
   have hcl:=Xgf 32 rest
   have hcut:TA (d + 3) Q3w [sv rest,.string ⟨#[32]⟩] m=_:=c_CutO rest (by omega) 32 (d + 1) m
   have e1:bin .sub false true .int (.int .i64 (row.length:Int)) (.int .i64 (rest.length:Int))=some (I (row.length - rest.length:Nat)):=by
    rw [Qf0]
    have:(row.length:Int) - (rest.length:Int)=((row.length - rest.length:Nat):Int):=by omega
    rw [this,wrap64 _ (by omega)]
   have e2:bin .add true true .int (I (row.length - rest.length:Nat)) (.int .i64 1)=some (I (row.length - rest.length + 1:Nat)):=by
    rw [Q3p]
    have:((row.length - rest.length:Nat):Int) + 1=((row.length - rest.length + 1:Nat):Int):=by omega
    rw [this,wrap64 _ (by omega)]
   have e3:bin .add true true .int (I i) (.int .i64 1)=some (I (i + 1:Nat)):=by
    rw [Q3p]
    have:((i:Nat):Int) + 1=((i + 1:Nat):Int):=by omega
    rw [this,wrap64 _ (by omega)]
   have e4:Xi Q2 [(0,1),(1,1)] [(0,I (i + 1:Nat)),(1,I (row.length - rest.length + 1:Nat))]=some (posV (i + 1) (row.length - rest.length + 1)):=Eq.trans rfl rfl
   have e5:Xi Qc1 [(0,1),(1,2)] [(0,sv (cutO 32 rest).1),(1,posV (i + 1) (row.length - rest.length + 1))]=some (.agg ⟨[sv (cutO 32 rest).1,I (i + 1:Nat),I (row.length - rest.length + 1:Nat)]⟩):=Eq.trans rfl rfl
   obtain ⟨tyb,hb⟩:=hbl
   have ld:X7 false 1 (pt bl 1 0) m=some (slV L ws.length 3):=X17 hb rfl
   -- the word's block
   have e6:X9 Q6y Qc1 3 1 [(0,.agg ⟨[sv (cutO 32 rest).1,I (i + 1:Nat),I (row.length - rest.length + 1:Nat)]⟩)] m=some (.slice (some ⟨m.next,0,some 3⟩) 1 1,m.push (.cells [sv (cutO 32 rest).1,I (i + 1:Nat),I (row.length - rest.length + 1:Nat)] 0 0 false (some (2 * Q6y)))):=Eq.trans rfl rfl
   generalize hm1:m.push (.cells [sv (cutO 32 rest).1,I (i + 1:Nat),I (row.length - rest.length + 1:Nat)] 0 0 false (some (2 * Q6y)))=m1 at e6
   have hm1n:m1.next=m.next + 1:=by rw [← hm1]; rfl
   have hm1l:m1.low=m.low:=by rw [← hm1]; rfl
   have hm1g:∀ b,b < m.next→m1.get b=m.get b:=fun b hb=>by rw [← hm1,Mem.get_push,if_neg (by omega)]
   have hm1b:m1.get m.next=some (.cells [sv (cutO 32 rest).1,I (i + 1:Nat),I (row.length - rest.length + 1:Nat)] 0 0 false (some (2 * Q6y))):=by rw [← hm1,Mem.get_push,if_pos rfl]
   have hF1:Fb bl m m1:=by rw [← hm1]; exact Fb.push _ (by omega)
   have hty:∃ ty,ws.length ≠ 0→m1.get L.b=some (.cells (X33 (i + 1) ws) L.ver 0 false ty):=by
    by_cases hz:ws=[]
    ·exact ⟨none,fun q=>absurd (by rw [hz]; rfl) q⟩
    ·obtain ⟨_,q2,_,ty,q4⟩:=hws hz
     exact ⟨ty,fun _=>by rw [hm1g _ q2]; exact q4⟩
   obtain ⟨ty1,hgt⟩:=hty
   have hws':∀ {p:Prop},(ws ≠ []→p)→ws.length ≠ 0→p:=fun h q=>h (fun e=>q (by rw [e]; rfl))
   obtain ⟨L',ty',m2,k1,k2,k3,k4,k5⟩:=Xhk (e:=Q6y) (bytes:=32) (L:=L) (n:=ws.length) (size:=3) (c:=X33 (i + 1) ws) (new:=[sv (cutO 32 rest).1,I (i + 1:Nat),I (row.length - rest.length + 1:Nat)]) hgt (hws' fun h=>(hws h).2.2.1) (Xfv _ _) hm1b rfl rfl (by omega) (Xbs (by omega) (by decide))
   have hLb:bl + 1 ≤ L'.b:=by
    rcases k5 with ⟨a,b,_⟩ | ⟨a,_⟩
    ·rw [a]; exact hws' (fun h=>(hws h).1) b
    ·omega
   have hLn:L'.b < m2.next:=by
    rcases k5 with ⟨a,b,c,_⟩ | ⟨a,b,_⟩
    ·rw [a,c]
     have:=hws' (fun h=>(hws h).2.1) b
     omega
    ·omega
   have hF2:Fb bl m1 m2:={
    next:=by rcases k5 with ⟨_,_,c,_⟩ | ⟨_,c,_⟩ <;> omega
    low:=by rcases k5 with ⟨_,_,_,c⟩ | ⟨_,_,c⟩ <;> omega
    low2:=fun x a b=>by
     rcases k5 with ⟨p,q,_,c⟩ | ⟨_,_,c⟩
     ·have:=hws' (fun h=>(hws h).1) q
      omega
     ·omega
    get:=fun b hb=>k4 b (by omega) (by omega)
    lo:=fun b hb=>by
     by_cases e:b=L'.b
     ·rcases k5 with ⟨p,q,_,c⟩ | ⟨p,_⟩
      ·exact .inl (by omega)
      ·omega
     ·exact .inr (k4 b hb e) }
   have hb2:m2.get bl=some (.cells [I ind,slV L ws.length 3] 0 0 false tyb):=by rw [k4 bl (by omega) (by omega),hm1g _ hlt]; exact hb
   have hv1:(slV L' (ws.length + 1) 3).cells=#[slV L' (ws.length + 1) 3]:=by unfold slV; rw [if_neg (by omega)]; rfl
   obtain ⟨m3,s1,s2,s3,s4,s5⟩:=Xn5 (o:=1) hb2 (slV L' (ws.length + 1) 3) (by rw [hv1]) (X6k _ _ _) (by show 1 + 1 ≤ 2; omega) (Nat.le_refl bl)
   have hd:trimS (cutO 32 rest).2.1=trimS (cutO 32 rest).2.1:=rfl
   have hlt2:=Xq8 hr
   have htl:=Xap (cutO 32 rest).2.1
   have ct:TA (d + 3) Q3r [sv (cutO 32 rest).2.1,.string ⟨#[32]⟩] m3=some (sv (trimS (cutO 32 rest).2.1),m3):=c_TrimLeft _ (by omega) (d + 1) m3
   have hw3:WsAt (bl + 1) m3 (i + 1) L' (ws ++ [((cutO 32 rest).1,row.length - rest.length + 1)]):=fun _=>⟨hLb,by rw [s3]; exact hLn,k3,ty',by
    rw [s5 _ (by omega),Xo1]; exact k2⟩
   have hbl3:∃ ty,m3.get bl=some (.cells [I ind,slV L' (ws ++ [((cutO 32 rest).1,row.length - rest.length + 1)]).length 3] 0 0 false ty):=⟨tyb,by
    rw [s4,List.length_append]; rfl⟩
   obtain ⟨m',L'',q1,q2,q3,q4⟩:=Xf4 d k0 row hrow i bl ind hi p7 p28 p27 p26 p3 f F (trimS (cutO 32 rest).2.1) (ws ++ [((cutO 32 rest).1,row.length - rest.length + 1)]) L' m3 (by omega) (by omega) (by omega) (by rw [List.length_append]; simp; omega) hbl3 (by rw [s3]; have:=hF2.next; omega) hw3
   rw [List.append_assoc] at q2 q3
   refine ⟨m',L'',?_,q2,q3,hF1.trans (hF2.trans (s2.trans q4))⟩
   simp only [X3r,X4,e1,e2,hcut,X6,ex0,ex1,ex2,Xe,Nat.zero_add,ld,e3,e4,e5,e6,k1,s1,Xp,ct]
   exact q1
structure Ln where
 ind:Nat
 ln:Nat
 ws:List Wd
noncomputable def X1p:List Str→Nat→List Ln
 | [],_=>[]
 | r :: l,i=>match rowP r with | some x=>⟨x.1,i + 1,x.2⟩ :: X1p l (i + 1) | none=>X1p l (i + 1)
noncomputable def X6e (l:List (Ln × Lc)):List Value:=l.flatMap fun x=>[I x.1.ind,slV x.2 x.1.ws.length 3]
theorem Xf5 (l:List (Ln × Lc)):(X6e l).length=l.length * 2:=by
 unfold X6e
 induction l with
 | nil=>rfl
 | cons w l ih=>rw [List.flatMap_cons,List.length_append,ih,List.length_cons]; simp; omega
theorem Xo0 (a b:List (Ln × Lc)):X6e (a ++ b)=X6e a ++ X6e b:=by unfold X6e; exact List.flatMap_append
noncomputable def LnAt (B:Nat) (m:Mem) (x:Ln × Lc):Prop:=x.1.ws ≠ []∧B ≤ x.2.b∧x.2.b < m.next∧x.2.r < 2∧∃ ty,m.get x.2.b=some (.cells (X33 x.1.ln x.1.ws) x.2.ver 0 false ty)
structure OutAt (B:Nat) (m:Mem) (L:Lc) (l:List (Ln × Lc)):Prop where
 out:l ≠ []→B ≤ L.b∧L.b < m.next∧L.r < 2∧∃ ty,m.get L.b=some (.cells (X6e l) L.ver 0 false ty)
 ls:∀ x ∈ l,LnAt B m x∧x.2.b ≠ L.b
theorem LnAt.keep {B:Nat} {m m':Mem} {x:Ln × Lc} (h:LnAt B m x) (hn:m.next ≤ m'.next) (hg:m'.get x.2.b=m.get x.2.b):LnAt B m' x:=by
 obtain ⟨h1,h2,h3,h4,ty,h5⟩:=h
 exact ⟨h1,h2,by omega,h4,ty,by rw [hg]; exact h5⟩
theorem Xrh {n f:Nat} {rest:Str} (h:rest ≠ []):X4i n (f + 1) rest ≠ []:=by unfold X4i; rw [if_neg h]; simp
theorem Xwv {B bl b2:Nat} {m:Mem} {L:Lc} {l:List (Ln × Lc)} {x:Ln} {Lw:Lc} (h:OutAt B m L l) (hlen:l.length ≤ 4194304) (hB:B ≤ bl) (hx:LnAt (bl + 1) m (x,Lw)) (hold:∀ y ∈ l,y.2.b < bl) (hL:l ≠ []→L.b < bl) (hb2:m.get b2=some (.cells [I x.ind,slV Lw x.ws.length 3] 0 0 false (some (2 * Q2w)))) (hbn:bl < m.next) :
  ∃ m' L',apS Q2w 2 32 (slV L l.length 2) (.slice (some ⟨b2,0,some 2⟩) 1 1) m=some (slV L' (l.length + 1) 2,m')∧OutAt B m' L' (l ++ [(x,Lw)])∧Fb B m m'∧m.next ≤ m'.next:=by
 have hne:∀ {p:Prop},(l ≠ []→p)→l.length ≠ 0→p:=fun h q=>h (fun e=>q (by rw [e]; rfl))
 have hty:∃ ty,l.length ≠ 0→m.get L.b=some (.cells (X6e l) L.ver 0 false ty):=by
  by_cases hz:l=[]
  ·exact ⟨none,fun q=>absurd (by rw [hz]; rfl) q⟩
  ·obtain ⟨_,_,_,ty,q4⟩:=h.out hz
   exact ⟨ty,fun _=>q4⟩
 obtain ⟨ty1,hgt⟩:=hty
 obtain ⟨L',ty',m2,k1,k2,k3,k4,k5⟩:=Xhk (e:=Q2w) (bytes:=32) (L:=L) (n:=l.length) (size:=2) (c:=X6e l) (new:=[I x.ind,slV Lw x.ws.length 3]) hgt (hne fun q=>(h.out q).2.2.1) (Xf5 _) hb2 rfl (by show (one (I x.ind) && (one (slV Lw x.ws.length 3) && true))=true; rw [X6k]; rfl) (by omega) (Xbs (by omega) (by decide))
 have hn:m.next ≤ m2.next:=by rcases k5 with ⟨_,_,c,_⟩ | ⟨_,c,_⟩ <;> omega
 have hLB:B ≤ L'.b:=by
  rcases k5 with ⟨a,b,_⟩ | ⟨a,_⟩
  ·rw [a]; exact hne (fun q=>(h.out q).1) b
  ·omega
 have hLn:L'.b < m2.next:=by
  rcases k5 with ⟨a,b,c,_⟩ | ⟨a,b,_⟩
  ·rw [a,c]; exact hne (fun q=>(h.out q).2.1) b
  ·omega
 have hLw:Lw.b ≠ L'.b:=by
  have h1:=hx.2.1
  have h2:=hx.2.2.1
  rcases k5 with ⟨a,b,_⟩ | ⟨a,_⟩
  ·rw [a]
   have:=hne hL b
   show Lw.b ≠ L.b
   have h1:bl + 1 ≤ Lw.b:=h1
   omega
  ·have h2:Lw.b < m.next:=h2
   omega
 refine ⟨m2,L',k1,⟨fun _=>⟨hLB,hLn,k3,ty',by rw [Xo0]; exact k2⟩,fun y hy=>?_⟩,?_,hn⟩
 ·rcases List.mem_append.mp hy with e | e
  ·obtain ⟨q1,q2⟩:=h.ls y e
   have hyL:y.2.b ≠ L'.b:=by
    rcases k5 with ⟨a,_⟩ | ⟨a,_⟩
    ·rw [a]; exact q2
    ·have:=q1.2.2.1; omega
   exact ⟨q1.keep hn (k4 _ q1.2.2.1 hyL),hyL⟩
  ·rw [List.mem_singleton.mp e]
   have h1:LnAt B m (x,Lw):=⟨hx.1,by have:=hx.2.1; omega,hx.2.2⟩
   exact ⟨h1.keep hn (k4 _ h1.2.2.1 hLw),hLw⟩
 ·exact {
   next:=hn
   low:=by rcases k5 with ⟨_,_,_,c⟩ | ⟨_,_,c⟩ <;> omega
   low2:=fun y a b=>by
    rcases k5 with ⟨p,q,_,c⟩ | ⟨_,_,c⟩
    ·have:=hne (fun q=>(h.out q).1) q
     omega
    ·omega
   get:=fun b hb=>k4 b (by omega) (by omega)
   lo:=fun b hb=>by
    by_cases e:b=L'.b
    ·rcases k5 with ⟨p,q,_,c⟩ | ⟨p,_⟩
     ·exact .inl (by omega)
     ·omega
    ·exact .inr (k4 b hb e) }
theorem OutAt.push {B:Nat} {m m':Mem} {L:Lc} {l:List (Ln × Lc)} (h:OutAt B m L l) (hn:m.next ≤ m'.next) (hg:∀ b,b < m.next→m'.get b=m.get b):OutAt B m' L l where
 out:=fun q=>by
  obtain ⟨a,b,c,ty,d⟩:=h.out q
  exact ⟨a,by omega,c,ty,by rw [hg _ b]; exact d⟩
 ls:=fun x hx=>by
  obtain ⟨a,b⟩:=h.ls x hx
  exact ⟨a.keep hn (hg _ a.2.2.1),b⟩
theorem OutAt.lt {B:Nat} {m:Mem} {L:Lc} {l:List (Ln × Lc)} (h:OutAt B m L l):(∀ y ∈ l,y.2.b < m.next)∧(l ≠ []→L.b < m.next):=⟨fun y hy=>(h.ls y hy).1.2.2.1,fun q=>(h.out q).2.1⟩
theorem Xfr (d:Nat) (B p3:Nat) (rows:List Str) (hr:∀ r ∈ rows,r.length ≤ 4194304) (hN:rows.length ≤ 4194304) (v:Value):∀ (n i f:Nat) (l:List (Ln × Lc)) (L:Lc) (m:Mem),i + n=rows.length→n < f→l.length ≤ i→B ≤ m.next→SL m v rows→(∀ b,b < B→True)→OutAt B m L l →
  (∃ bs,bs < B∧∀ m',B ≤ m'.next→m'.get bs=m.get bs→SL m' v rows)→p3 < B→(∃ ty x y,m.get p3=some (.cells [x,y] 0 0 false ty)) →
  ∃ m' L' l',Q10 ⟨TA (d + 3),18446744073709551616⟩ f (I i) (I rows.length) v (slV L l.length 2) (pt p3 0 0) m=Q96 ⟨TA (d + 3),18446744073709551616⟩ (slV L' l'.length 2) (pt p3 0 0) m'∧OutAt B m' L' l'∧l'.map (·.1)=l.map (·.1) ++ X1p (rows.drop i) i∧Fb B m m'
 | 0,i,f + 1,l,L,m,e,hf,hli,hB,hS,_,hO,_,_,_=>by
  have:i=rows.length:=by omega
  subst this
  refine ⟨m,L,l,?_,hO,?_,.refl _ _⟩
  ·unfold Q10
   simp only [Qw,X4,Int.lt_irrefl,decide_false]
   unfold Qf1
   rw [Xa]
  ·rw [List.drop_length]
   unfold X1p
   rw [List.append_nil]
 | n + 1,i,f + 1,l,L,m,e,hf,hli,hB,hS,hT,hO,hbs,hp3,hg3=>by
  have hi:i < rows.length:=by omega
  have hlt:decide (((i:Nat):Int) < ((rows.length:Nat):Int))=true:=decide_eq_true (by omega)
  obtain ⟨p,l1,l2⟩:=hS.at (List.getElem?_eq_getElem hi)
  have hd:rows.drop i=rows[i] :: rows.drop (i + 1):=List.drop_eq_getElem_cons hi
  have hrow:rows[i].length ≤ 4194304:=hr _ (List.getElem_mem hi)
  have htl:=Xap rows[i]
  have ct:TA (d + 3) Q3r [sv rows[i],.string ⟨#[32]⟩] m=some (sv (trimS rows[i]),m):=c_TrimLeft _ hrow (d + 1) m
  have e1:bin .add true true .int (I i) (.int .i64 1)=some (I (i + 1:Nat)):=by
   rw [Q3p]
   have:((i:Nat):Int) + 1=((i + 1:Nat):Int):=by omega
   rw [this,wrap64 _ (by omega)]
  have e0:bin .eql true true .str (sv (trimS rows[i])) (.string ⟨#[]⟩)=some (.bool (decide (trimS rows[i]=[]))):=Qo _ _ _ []
  rw [hd]
  unfold X1p
  have next:∀ (l':List (Ln × Lc)) (L':Lc) (m':Mem),Fb B m m'→l'.length ≤ i + 1→OutAt B m' L' l' →
    ∃ m2 L2 l2,Q97 ⟨TA (d + 3),18446744073709551616⟩ (Q10 ⟨TA (d + 3),18446744073709551616⟩ f) (I i) (I rows.length) v (slV L' l'.length 2) (pt p3 0 0) m'=Q96 ⟨TA (d + 3),18446744073709551616⟩ (slV L2 l2.length 2) (pt p3 0 0) m2∧OutAt B m2 L2 l2∧l2.map (·.1)=l'.map (·.1) ++ X1p (rows.drop (i + 1)) (i + 1)∧Fb B m m2:=fun l' L' m' hF hl' hO'=>by
   obtain ⟨bs,hb1,hb2⟩:=hbs
   have hn:=hF.next
   obtain ⟨m2,L2,l2,q1,q2,q3,q4⟩:=Xfr d B p3 rows hr hN v n (i + 1) f l' L' m' (by omega) (by omega) hl' (by omega) (hb2 m' (by omega) (hF.get bs hb1)) hT hO' ⟨bs,hb1,fun m3 a b=>hb2 m3 a (by rw [b,hF.get bs hb1])⟩ hp3 (by
    obtain ⟨ty,x,y,hg⟩:=hg3
    exact ⟨ty,x,y,by rw [hF.get p3 hp3]; exact hg⟩)
   refine ⟨m2,L2,l2,?_,q2,q3,hF.trans q4⟩
   unfold Q97
   simp only [e1,X4]
   exact q1
  have skip:rowP rows[i]=none→∃ m2 L2 l2,Q97 ⟨TA (d + 3),18446744073709551616⟩ (Q10 ⟨TA (d + 3),18446744073709551616⟩ f) (I i) (I rows.length) v (slV L l.length 2) (pt p3 0 0) m=Q96 ⟨TA (d + 3),18446744073709551616⟩ (slV L2 l2.length 2) (pt p3 0 0) m2∧OutAt B m2 L2 l2∧l2.map (·.1)=l.map (·.1) ++ (match rowP rows[i] with | some x=>⟨x.1,i + 1,x.2⟩ :: X1p (rows.drop (i + 1)) (i + 1) | none=>X1p (rows.drop (i + 1)) (i + 1))∧Fb B m m2:=fun hn=>by
   rw [hn]
   exact next l L m (.refl _ _) (by omega) hO
  unfold Q10
  simp only [Qw,X4,hlt]
  unfold Qf1
  rw [Xc]
  unfold Qgo
  simp only [l1,l2,X4]
  unfold Qgp
  simp only [ct,X6]
  unfold Qfx
  simp only [e0,X4]
  by_cases ht:trimS rows[i]=[]
  ·rw [decide_eq_true ht,Xc]
   unfold Qai
   rw [Xc]
   exact skip (by unfold rowP; dsimp only; rw [if_pos (.inl ht)])
  ·rw [decide_eq_false ht,Xa]
   have hp:0 < (trimS rows[i]).length:=List.length_pos_iff.mpr ht
   have ei:Xh (sv (trimS rows[i])) (.int .i64 0)=some (.int .u8 (((trimS rows[i])[0]).toNat:Int)):=X6c _ .i64 0 hp
   have e33:bin .eql true true .int (.int .u8 (((trimS rows[i])[0]).toNat:Int)) (.int .u8 33)=some (.bool (decide ((trimS rows[i]).head?=some 33))):=by
    rw [Q3y]
    congr 2
    rw [decide_eq_decide]
    have hh:(trimS rows[i]).head?=some (trimS rows[i])[0]:=by rw [List.head?_eq_getElem?,List.getElem?_eq_getElem hp]
    rw [hh]
    constructor
    ·intro h
     congr 1
     apply UInt8.toNat_inj.mp
     show _=33
     omega
    ·intro h
     rw [Option.some.inj h]
     rfl
   simp only [ei,e33,X4]
   unfold Qai
   by_cases hh:(trimS rows[i]).head?=some 33
   ·rw [decide_eq_true hh,Xc]
    exact skip (by unfold rowP; dsimp only; rw [if_pos (.inr hh)])
   ·rw [decide_eq_false hh,Xa]
    have hrp:rowP rows[i]=some (rows[i].length - (trimS rows[i]).length,X4i rows[i].length (rows[i].length + 1) (trimS rows[i])):=by
     unfold rowP
     try dsimp only
     rw [if_neg (by rintro (h | h); exact ht h; exact hh h)]
    unfold Qfy
    have e2:bin .sub false true .int (.int .i64 (rows[i].length:Int)) (.int .i64 ((trimS rows[i]).length:Int))=some (I (rows[i].length - (trimS rows[i]).length:Nat)):=by
     rw [Qf0]
     have:(rows[i].length:Int) - ((trimS rows[i]).length:Int)=((rows[i].length - (trimS rows[i]).length:Nat):Int):=by omega
     rw [this,wrap64 _ (by omega)]
    have e3:∀ z:Nat,Xi Q5x [(0,1),(1,1)] [(0,I z)]=some (.agg ⟨[I z,.slice none 0 0]⟩):=fun z=>Eq.trans rfl rfl
    generalize hz:rows[i].length - (trimS rows[i]).length=z at e2 hrp
    obtain ⟨m1,n1,n2,n3,n4⟩:=X2g [] m (some (2 * Q2w + 1)) Q5x (v:=.agg ⟨[I z,.slice none 0 0]⟩) (n:=2) rfl rfl rfl
    have n1:X8 2 (pt m.next 0 0) (.agg ⟨[I z,.slice none 0 0]⟩) (m.push (.cells Q5x 0 0 false (some (2 * Q2w + 1))))=some m1:=n1
    have hn1:m1.next=m.next + 1:=n3
    obtain ⟨m2,Lw,q1,q2,q3,q4⟩:=Xf4 d (Q10 ⟨TA (d + 3),18446744073709551616⟩ f) rows[i] hrow i m.next z (by omega) (slV L l.length 2) (I i) (I rows.length) v (pt p3 0 0) (rows[i].length + 1) 18446744073709551616 (trimS rows[i]) [] ⟨0,0,0⟩ m1 (by omega) (by omega) htl (by simp; omega) ⟨_,n4⟩ (by omega) (fun q=>absurd rfl q)
    rw [List.nil_append] at q2 q3
    have hwne:X4i rows[i].length (rows[i].length + 1) (trimS rows[i]) ≠ []:=Xrh ht
    generalize hws:X4i rows[i].length (rows[i].length + 1) (trimS rows[i])=ws at q2 q3 hwne hrp
    obtain ⟨tyq,q2⟩:=q2
    have F1:Fb m.next m m1:=n2.toFb (Nat.le_refl _)
    have F2:Fb m.next m m2:=F1.trans q4
    have hn2:=F2.next
    have hnx:m1.next ≤ m2.next:=q4.next
    have ldl:X7 true 2 (pt m.next 0 0) m2=some (.agg ⟨[I z,slV Lw ws.length 3]⟩):=Xx q2 (by show 2 ≤ 2; omega) rfl
    have hwv:(slV Lw ws.length 3).cells=#[slV Lw ws.length 3]:=by
     unfold slV
     split <;> rfl
    have e4:X9 Q2w Q5x 2 1 [(0,.agg ⟨[I z,slV Lw ws.length 3]⟩)] m2=some (.slice (some ⟨m2.next,0,some 2⟩) 1 1,m2.push (.cells [I z,slV Lw ws.length 3] 0 0 false (some (2 * Q2w)))):=by
     rw [X28]
     unfold X21
     have:fill (fun i=>some (i * 2,2)) (rep 1 Q5x) [(0,.agg ⟨[I z,slV Lw ws.length 3]⟩)]=some [I z,slV Lw ws.length 3]:=rfl
     rw [this]
     rfl
    generalize hm3:m2.push (.cells [I z,slV Lw ws.length 3] 0 0 false (some (2 * Q2w)))=m3 at e4
    have g3n:m3.next=m2.next + 1:=by rw [← hm3]; rfl
    have g3:∀ b,b < m2.next→m3.get b=m2.get b:=fun b hb=>by rw [← hm3,Mem.get_push,if_neg (by omega)]
    have g3b:m3.get m2.next=some (.cells [I z,slV Lw ws.length 3] 0 0 false (some (2 * Q2w))):=by rw [← hm3,Mem.get_push,if_pos rfl]
    have F3:Fb B m m3:=by
     rw [← hm3]
     exact Fb.trans { next:=F2.next,low:=F2.low,low2:=fun x a b=>F2.low2 x a (by omega),get:=fun b hb=>F2.get b (by omega),lo:=F2.lo } (Fb.push _ (by omega))
    obtain ⟨hl1,hl2⟩:=hO.lt
    have hO3:OutAt B m3 L l:=hO.push (by omega) (fun b hb=>by rw [g3 b (by omega),F2.get b hb])
    obtain ⟨w1,w2,w3,tyw,w4⟩:=q3 hwne
    have hLn3:LnAt (m.next + 1) m3 (⟨z,i + 1,ws⟩,Lw):=⟨hwne,w1,by show Lw.b < m3.next; omega,w3,tyw,by rw [g3 _ w2]; exact w4⟩
    obtain ⟨m4,L4,a1,a2,a3,a4⟩:=Xwv (bl:=m.next) (x:=⟨z,i + 1,ws⟩) (Lw:=Lw) hO3 (by omega) hB hLn3 hl1 hl2 g3b (by omega)
    obtain ⟨m5,L5,l5,r1,r2,r3,r4⟩:=next (l ++ [(⟨z,i + 1,ws⟩,Lw)]) L4 m4 (F3.trans a3) (by rw [List.length_append]; simp; omega) a2
    refine ⟨m5,L5,l5,?_,r2,?_,r4⟩
    ·simp only [X3r,X4,e2,e3,X12,n1,Xp]
     unfold Qfz
     refine Eq.trans q1 ?_
     unfold Qea
     simp only [ldl,X4,e4,X6,a1]
     rw [List.length_append] at r1
     exact r1
    ·rw [r3,hrp,List.map_append,List.append_assoc]
     rfl
noncomputable def linesT (s:Str):List Ln:=X1p (split 10 s) 0
end Go.Ab.Sh

set_option maxRecDepth 100000
namespace Go.Ab.Sh
open Go Go.Ab Go.Lib
noncomputable def chk:List UInt8→Nat→Nat→Nat × Nat × Nat
 | [],_,_=>(0,0,0)
 | c :: r,l,k=>if 4096 < l then (l,k,3) else if c.toNat=10 then chk r (l + 1) 1 else if c.toNat < 32∨126 < c.toNat then (l,k,70) else chk r l (k + 1)
noncomputable def chkV (x:Nat × Nat × Nat):Value:=.tuple ⟨[.agg #[.int .i64 x.1,.int .i64 x.2.1],.int .i64 x.2.2]⟩
noncomputable def At2 (m:Mem) (b a c:Nat):Prop:=∃ ty,m.get b=some (.cells [I a,I c] 0 0 false ty)
theorem At2.l0 {m:Mem} {b a c:Nat} (h:At2 m b a c):X7 false 1 (pt b 0 0) m=some (I a):=by obtain ⟨ty,h⟩:=h; exact X17 h rfl
theorem At2.l1 {m:Mem} {b a c:Nat} (h:At2 m b a c):X7 false 1 (pt b 1 0) m=some (I c):=by obtain ⟨ty,h⟩:=h; exact X17 h rfl
theorem At2.l2 {m:Mem} {b a c:Nat} (h:At2 m b a c):X7 true 2 (pt b 0 0) m=some (posV a c):=by obtain ⟨ty,h⟩:=h; exact Xx h (by show 0 + 2 ≤ 2; omega) rfl
theorem At2.put {m:Mem} {b a c B:Nat} (h:At2 m b a c) (hB:B ≤ b) (a' c':Nat):∃ m',X8 2 (pt b 0 0) (posV a' c') m=some m'∧At2 m' b a' c'∧Fb B m m'∧∀ b',b' ≠ b→m'.get b'=m.get b':=by
 obtain ⟨ty,h⟩:=h
 obtain ⟨m',k1,k2⟩:=X1s (o:=0) (n:=2) (v:=posV a' c') (c':=[I a',I c']) h rfl (Nat.zero_le _) (by show 0 + 2 ≤ 2; omega) rfl rfl
 exact ⟨m',k1,⟨ty,by rw [k2.get,Mem.get_put,if_pos rfl]⟩,((Fb.refl B m).put _ hB).meq k2,fun b' hb=>by rw [k2.get,Mem.get_put,if_neg (Ne.symm hb)]⟩
theorem At2.put1 {m:Mem} {b a c B:Nat} (h:At2 m b a c) (hB:B ≤ b) (c':Nat):∃ m',X8 1 (pt b 1 0) (I c') m=some m'∧At2 m' b a c'∧Fb B m m'∧∀ b',b' ≠ b→m'.get b'=m.get b':=by
 obtain ⟨ty,h⟩:=h
 obtain ⟨m',k1,k2⟩:=X1s (o:=1) (n:=1) (v:=I c') (c':=[I a,I c']) h rfl (Nat.zero_le _) (by show 1 + 1 ≤ 2; omega) rfl rfl
 exact ⟨m',k1,⟨ty,by rw [k2.get,Mem.get_put,if_pos rfl]⟩,((Fb.refl B m).put _ hB).meq k2,fun b' hb=>by rw [k2.get,Mem.get_put,if_neg (Ne.symm hb)]⟩
theorem At2.ne {m m':Mem} {b a c:Nat} (h:At2 m b a c) (e:m'.get b=m.get b):At2 m' b a c:=by obtain ⟨ty,h⟩:=h; exact ⟨ty,by rw [e]; exact h⟩
theorem obC (a y:Value) (m:Mem):(ob (ob (some y) fun v=>ob (some [a]) fun l=>some (v :: l)) fun l=>some (X1g l,m))=some (.tuple ⟨[y,a]⟩,m):=Eq.trans rfl rfl
theorem Xbz (G:Gt) (s:Str) (b c B:Nat) (hbc:b ≠ c) (hb:B ≤ b) (hc:B ≤ c) (hs:s.length ≤ 65536):∀ (r pre:Str) (f l k:Nat) (m:Mem) (x y:Nat),s=pre ++ r→r.length < f→l ≤ pre.length + 1→k ≤ pre.length + 1→At2 m b l k→At2 m c x y →
  ∃ m',Q1s G f (I pre.length) (I s.length) (pt b 0 0) (pt c 0 0) (sv s) m=some (chkV (chk r l k),m')∧Fb B m m'
 | [],pre,f + 1,l,k,m,x,y,hsp,hf,hl,hk,h1,h2=>by
  have hlen:pre.length=s.length:=by rw [hsp]; simp
  obtain ⟨m',k1,k2,k3,_⟩:=h2.put hc 0 0
  refine ⟨m',?_,k3⟩
  unfold Q1s
  have e1:bin .lss false true .int (I pre.length) (I s.length)=some (.bool false):=by rw [Qw,decide_eq_false (by omega)]
  have eb:Xi Q2 [(0,1),(1,1)] []=some (posV 0 0):=Eq.trans rfl rfl
  have k1:X8 2 (pt c 0 0) (posV 0 0) m=some m':=k1
  simp only [e1,X4]
  unfold Qf2 Qgq
  rw [Xa]
  simp only [eb,X4,k1,Xp,k2.l2]
  exact obC _ _ _
 | a :: r,pre,f + 1,l,k,m,x,y,hsp,hf,hl,hk,h1,h2=>by
  have hlen:pre.length + (r.length + 1)=s.length:=by rw [hsp]; simp
  have hf:r.length < f:=by simp at hf; omega
  have hix:s[pre.length]'(by omega)=a:=by
   have:s[pre.length]?=some a:=by rw [hsp]; simp
   exact (List.getElem?_eq_some_iff.mp this).2
  have e1:bin .lss false true .int (I pre.length) (I s.length)=some (.bool true):=by rw [Qw,decide_eq_true (by omega)]
  have e2:bin .gtr true true .int (I l) (.int .i64 4096)=some (.bool (decide (4096 < l))):=by rw [Qby]; congr 2; rw [decide_eq_decide]; omega
  have e3:Xh (sv s) (I pre.length)=some (.int .u8 (a.toNat:Int)):=by rw [X6c s .i64 pre.length (by omega),hix]
  have e4:bin .eql true true .int (.int .u8 (a.toNat:Int)) (.int .u8 10)=some (.bool (decide (a.toNat=10))):=by rw [Q3y]; congr 2; rw [decide_eq_decide]; omega
  have e5:bin .lss true true .int (.int .u8 (a.toNat:Int)) (.int .u8 32)=some (.bool (decide (a.toNat < 32))):=by rw [Qw]; congr 2; rw [decide_eq_decide]; omega
  have e6:bin .gtr true true .int (.int .u8 (a.toNat:Int)) (.int .u8 126)=some (.bool (decide (126 < a.toNat))):=by rw [Qby]; congr 2; rw [decide_eq_decide]; omega
  have add1:∀ n:Nat,n ≤ 70000→bin .add true true .int (I n) (.int .i64 1)=some (I (n + 1:Nat)):=fun n hn=>by
   rw [Q3p]
   have:((n:Nat):Int) + 1=((n + 1:Nat):Int):=by omega
   rw [this,wrap64 _ (by omega)]
  have hpl:(pre ++ [a]).length=pre.length + 1:=by simp
  unfold Q1s
  simp only [e1,X4]
  unfold Qf2 Qgr Qgs chk
  rw [Xc]
  simp only [Xe,X4,Nat.zero_add,h1.l0,e2]
  unfold Qg0
  by_cases g1:4096 < l
  ·rw [decide_eq_true g1,Xc,if_pos g1]
   obtain ⟨m',k1,k2,k3,_⟩:=h2.put hc l k
   refine ⟨m',?_,k3⟩
   simp only [h1.l2,X4,k1,Xp,k2.l2]
   exact obC _ _ _
  ·rw [decide_eq_false g1,Xa,if_neg g1]
   simp only [e3,X4,e4]
   unfold Qg1
   by_cases g2:a.toNat=10
   ·rw [decide_eq_true g2,Xc,if_pos g2]
    obtain ⟨m',k1,k2,k3,k4⟩:=h1.put hb (l + 1) 1
    have eb:Xi Q2 [(0,1),(1,1)] [(0,I (l + 1:Nat)),(1,.int .i64 1)]=some (posV (l + 1) 1):=Eq.trans rfl rfl
    obtain ⟨m2,q1,q2⟩:=Xbz G s b c B hbc hb hc hs r (pre ++ [a]) f (l + 1) 1 m' x y (by rw [hsp]; simp) hf (by omega) (by omega) k2 (h2.ne (k4 c (Ne.symm hbc)))
    refine ⟨m2,?_,k3.trans q2⟩
    unfold Qcv
    simp only [Xe,X4,Nat.zero_add,h1.l0,add1 l (by omega),eb,k1,Xp,add1 pre.length (by omega)]
    rw [hpl] at q1
    exact q1
   ·rw [decide_eq_false g2,Xa,if_neg g2]
    have fin:∀ m,At2 m b l k→At2 m c x y→∃ m',Q8b G (Q1s G f) (.bool true) (pt b 0 0) (pt c 0 0) (I pre.length) (I s.length) (sv s) m=some (chkV (l,k,70),m')∧Fb B m m':=fun m h1 h2=>by
     obtain ⟨m',k1,k2,k3,_⟩:=h2.put hc l k
     refine ⟨m',?_,k3⟩
     unfold Q8b
     rw [Xc]
     simp only [h1.l2,X4,k1,Xp,k2.l2]
     exact obC _ _ _
    simp only [e3,X4,e5]
    by_cases g3:a.toNat < 32
    ·rw [decide_eq_true g3,Xc,if_pos (.inl g3)]
     exact fin m h1 h2
    ·rw [decide_eq_false g3,Xa]
     simp only [e3,X4,e6]
     by_cases g4:126 < a.toNat
     ·rw [decide_eq_true g4,if_pos (.inr g4)]
      exact fin m h1 h2
     ·rw [decide_eq_false g4,if_neg (fun h=>h.elim g3 g4)]
      obtain ⟨m',k1,k2,k3,k4⟩:=h1.put1 hb (k + 1)
      obtain ⟨m2,q1,q2⟩:=Xbz G s b c B hbc hb hc hs r (pre ++ [a]) f l (k + 1) m' x y (by rw [hsp]; simp) hf (by omega) (by omega) k2 (h2.ne (k4 c (Ne.symm hbc)))
      refine ⟨m2,?_,k3.trans q2⟩
      unfold Q8b Qcv
      rw [Xa]
      simp only [Xe,X4,Nat.zero_add,h1.l1,add1 k (by omega),k1,Xp,add1 pre.length (by omega)]
      rw [hpl] at q1
      exact q1
noncomputable def Xl (s:Str):Nat × Nat × Nat:=if 65536 < s.length then (0,0,3) else chk s 1 1
theorem c_check (s:Str) (d:Nat) (m:Mem):TA (d + 1) Qcy [sv s] m=some (chkV (Xl s),m):=by
 rw [Xki]
 generalize hm0:withLow m m.next=m0
 have hn0:m0.next=m.next:=by rw [← hm0]; rfl
 generalize hm1:m0.push (.cells Q2 0 0 false (some (2 * Q5 + 1)))=m1
 have hn1:m1.next=m0.next + 1:=by rw [← hm1]; rfl
 have F1:Fb m.next m0 m1:=by rw [← hm1]; exact Fb.push _ (by omega)
 have a1:At2 m1 m0.next 0 0:=⟨_,by rw [← hm1,Mem.get_push,if_pos rfl]; rfl⟩
 have key:∃ m',Q9i ⟨TA d,18446744073709551616⟩ (sv s) m0=some (chkV (Xl s),m')∧Fb m.next m0 m':=by
  unfold Q9i
  rw [X12]
  try rw [X6]
  rw [hm1]
  unfold Qgt Xl
  have e1:bin .gtr true true .int (.int .i64 (s.length:Int)) (.int .i64 65536)=some (.bool (decide (65536 < s.length))):=by rw [Qby]; congr 2; rw [decide_eq_decide]; omega
  simp only [X3r,X4,e1]
  by_cases g:65536 < s.length
  ·rw [decide_eq_true g,Xc,if_pos g]
   obtain ⟨m',k1,k2,k3,_⟩:=a1.put (B:=m.next) (by omega) 0 0
   refine ⟨m',?_,F1.trans k3⟩
   have eb:Xi Q2 [(0,1),(1,1)] []=some (posV 0 0):=Eq.trans rfl rfl
   have k1:X8 2 (pt m0.next 0 0) (posV 0 0) m1=some m':=k1
   simp only [eb,X4,k1,Xp,k2.l2]
   exact obC _ _ _
  ·rw [decide_eq_false g,Xa,if_neg g]
   unfold Qgu
   have eb:Xi Q2 [(0,1),(1,1)] [(0,.int .i64 1),(1,.int .i64 1)]=some (posV 1 1):=Eq.trans rfl rfl
   simp only [eb,X4,X12,X6]
   generalize hm2:m1.push (.cells Q2 0 0 false (some (2 * Q5 + 1)))=m2
   have hn2:m2.next=m1.next + 1:=by rw [← hm2]; rfl
   have F2:Fb m.next m1 m2:=by rw [← hm2]; exact Fb.push _ (by omega)
   have a2:At2 m2 m1.next 0 0:=⟨_,by rw [← hm2,Mem.get_push,if_pos rfl]; rfl⟩
   have a12:At2 m2 m0.next 0 0:=a1.ne (by rw [← hm2,Mem.get_push,if_neg (by omega)])
   obtain ⟨m3,k1,k2,k3,k4⟩:=a2.put (B:=m.next) (by omega) 1 1
   obtain ⟨m4,q1,q2⟩:=Xbz ⟨TA d,18446744073709551616⟩ s m1.next m0.next m.next (by omega) (by omega) (by omega) (by omega) s [] 18446744073709551616 1 1 m3 0 0 rfl (by omega) (Nat.le_refl _) (Nat.le_refl _) k2 (a12.ne (k4 _ (by omega)))
   refine ⟨m4,?_,F1.trans (F2.trans (k3.trans q2))⟩
   have k1:X8 2 (pt m1.next 0 0) (posV 1 1) m2=some m3:=k1
   simp only [k1,Xp]
   unfold Qgv Qgw
   simp only [X3r,X4]
   exact q1
 obtain ⟨m',k1,k2⟩:=key
 rw [← hm0] at k1 k2
 rw [hm0] at k1
 exact X1x (m1:=m') k1 k2 rfl
end Go.Ab.Sh

set_option maxRecDepth 100000
namespace Go.Ab
open Go
theorem Xtr {m m1:Mem} {v:Value} {x:Option Rs} (hx:x=some (v,m1)) (hF:Fr [] (withLow m m.next) m1) (hv:refs m.next 8 v=false):∃ m2,outOf m x=some (v,m2)∧Fr [] m m2∧m2.next=m1.next∧∀ b,m2.get b=m1.get b:=by
 subst hx
 have hc:(Nat.ble m.next m1.low && refs m.next 8 v)=false:=by rw [hv,Bool.and_false]
 have e:∀ v' m2,gc m v m1=(v',m2)→outOf m (some (v,m1))=some (v',m2):=fun v' m2 h=>by simp only [outOf,h]
 refine ⟨withLow m1 (min m.low m1.low),e _ _ (by rw [Xhc]; unfold gcO; rw [hc]; rfl),{
  next:=hF.next
  low:=Nat.min_le_left _ _
  low2:=fun y a b c=>by
   have:=hF.low2 y b b (by simp)
   show y ≤ min m.low m1.low
   omega
  get:=hF.get
  lo:=fun b hb=>by
   rcases hF.lo b hb with q | q
   ·exact .inl (Nat.le_trans (Nat.min_le_right _ _) q)
   ·exact .inr q },rfl,fun _=>rfl⟩
end Go.Ab
namespace Go.Ab.Sh
open Go Go.Ab Go.Lib
theorem obL (a b:Value) (m:Mem) (y:Value):(ob (ob (ob (some y) fun v=>ob (some [a]) fun l=>some (v :: l)) fun l=>some (b :: l)) fun l=>some (X1g l,m))=some (.tuple ⟨[b,y,a]⟩,m):=Eq.trans rfl rfl
theorem c_Lines_bad (s:Str) (h:(Xl s).2.2 ≠ 0) (d:Nat) (m:Mem):TA (d + 4) Q9j [sv s] m=some (.tuple ⟨[.slice none 0 0,posV (Xl s).1 (Xl s).2.1,I (Xl s).2.2]⟩,m):=by
 rw [Xef]
 generalize hm0:withLow m m.next=m0
 have hn0:m0.next=m.next:=by rw [← hm0]; rfl
 have F1:Fb m.next m0 (m0.push (.cells Q2 0 0 false (some (2 * Q5 + 1)))):=Fb.push _ (by omega)
 generalize hm1:m0.push (.cells Q2 0 0 false (some (2 * Q5 + 1)))=m1 at F1
 have g1:m1.get m0.next=some (.cells Q2 0 0 false (some (2 * Q5 + 1))):=by rw [← hm1,Mem.get_push,if_pos rfl]
 have hn1:m1.next=m0.next + 1:=by rw [← hm1]; rfl
 obtain ⟨m2,n1,n2,n3,n4⟩:=X2g [] m1 (some (2 * Q5 + 1)) Q2 (v:=posV (Xl s).1 (Xl s).2.1) (n:=2) rfl rfl rfl
 have n1:X8 2 (pt m1.next 0 0) (.agg #[.int .i64 (Xl s).1,.int .i64 (Xl s).2.1]) (m1.push (.cells Q2 0 0 false (some (2 * Q5 + 1))))=some m2:=n1
 have l2:X7 true 2 (pt m1.next 0 0) m2=some (posV (Xl s).1 (Xl s).2.1):=Xx n4 (by show 2 ≤ 2; omega) rfl
 have g2:m2.get m0.next=some (.cells Q2 0 0 false (some (2 * Q5 + 1))):=by rw [n2.get _ (by omega) (by simp)]; exact g1
 obtain ⟨m3,k1,k2⟩:=X1s (o:=0) (n:=2) (v:=posV (Xl s).1 (Xl s).2.1) (c':=[I (Xl s).1,I (Xl s).2.1]) g2 rfl (Nat.zero_le _) (by show 0 + 2 ≤ 2; omega) rfl rfl
 have l3:X7 true 2 (pt m0.next 0 0) m3=some (posV (Xl s).1 (Xl s).2.1):=Xx (by rw [k2.get,Mem.get_put,if_pos rfl]) (by show 2 ≤ 2; omega) rfl
 have F2:Fb m.next m0 m2:=F1.trans (n2.toFb (by omega))
 have F3:Fb m.next m0 m3:=F2.trans (((Fb.refl m.next m2).put _ (by omega)).meq k2)
 rw [← hm0] at F3
 refine X1x (m1:=m3) ?_ F3 rfl
 try rw [hm0]
 unfold Q8a Qf3
 have hc:=c_check s (d + 2) m1
 have hc:TA (d + 3) Qcy [sv s] m1=some (.tuple ⟨[.agg #[.int .i64 (Xl s).1,.int .i64 (Xl s).2.1],.int .i64 (Xl s).2.2]⟩,m1):=hc
 have e0:bin .neq true true .int (.int .i64 (Xl s).2.2) (.int .i64 0)=some (.bool true):=by rw [Q4z,decide_eq_true (by omega)]
 rw [X12,hm1]
 simp only [hc,X6,ex0,ex1,X4,X12,n1,Xp,e0,Xc,l2,k1,l3]
 exact obL _ _ _ _
theorem c_Lines (s:Str) (h:(Xl s).2.2=0) (d:Nat) (m:Mem):∃ m' L l,TA (d + 4) Q9j [sv s] m=some (.tuple ⟨[slV L l.length 2,posV 0 0,I 0]⟩,m')∧OutAt m.next m' L l∧l.map (·.1)=linesT s∧Fr [] m m':=by
 have hs:s.length ≤ 65536:=by
  rcases Nat.lt_or_ge 65536 s.length with q | q
  ·unfold Xl at h
   rw [if_pos q] at h
   cases h
  ·exact q
 rw [Xef]
 generalize hm0:withLow m m.next=m0
 have hn0:m0.next=m.next:=by rw [← hm0]; rfl
 have F1:Fb m.next m0 (m0.push (.cells Q2 0 0 false (some (2 * Q5 + 1)))):=Fb.push _ (by omega)
 generalize hm1:m0.push (.cells Q2 0 0 false (some (2 * Q5 + 1)))=m1 at F1
 have g1:m1.get m0.next=some (.cells Q2 0 0 false (some (2 * Q5 + 1))):=by rw [← hm1,Mem.get_push,if_pos rfl]
 have hn1:m1.next=m0.next + 1:=by rw [← hm1]; rfl
 obtain ⟨m2,n1,n2,n3,n4⟩:=X2g [] m1 (some (2 * Q5 + 1)) Q2 (v:=posV (Xl s).1 (Xl s).2.1) (n:=2) rfl rfl rfl
 have n1:X8 2 (pt m1.next 0 0) (.agg #[.int .i64 (Xl s).1,.int .i64 (Xl s).2.1]) (m1.push (.cells Q2 0 0 false (some (2 * Q5 + 1))))=some m2:=n1
 have hn2:m2.next=m1.next + 1:=n3
 have g2:m2.get m0.next=some (.cells Q2 0 0 false (some (2 * Q5 + 1))):=by rw [n2.get _ (by omega) (by simp)]; exact g1
 obtain ⟨v,m3,p1,p2,p3,p4⟩:=c_Split s (by omega) 10 d m2
 have p1:TA (d + 3) Q5y [sv s,.string ⟨#[10]⟩] m2=some (v,m3):=p1
 have hn3:=p2.next
 have g3:m3.get m0.next=some (.cells Q2 0 0 false (some (2 * Q5 + 1))):=by rw [p2.get _ (by omega) (by simp)]; exact g2
 obtain ⟨bs,q1,q2,_⟩:=p3.block
 have hsl:(split 10 s).length ≤ s.length + 1:=by
  rw [X46 10 s.length s (Nat.le_refl _)]
  have:=List.count_le_length (a:=(10:UInt8)) (l:=s)
  omega
 obtain ⟨m4,L,l,r1,r2,r3,r4⟩:=Xfr d m3.next m0.next (split 10 s) (fun r hr=>by have:=X7c 10 s r hr; omega) (by omega) v (split 10 s).length 0 18446744073709551616 [] ⟨0,0,0⟩ m3 (by omega) (by omega) (Nat.zero_le _) (Nat.le_refl _) p3 (fun _ _=>trivial) ⟨fun q=>absurd rfl q,fun x hx=>by cases hx⟩ ⟨bs,q1,fun m' a b=>q2 m' a b⟩ (by omega) ⟨_,_,_,g3⟩
 rw [List.map_nil,List.nil_append,List.drop_zero] at r3
 have g4:m4.get m0.next=some (.cells Q2 0 0 false (some (2 * Q5 + 1))):=by rw [r4.get _ (by omega)]; exact g3
 obtain ⟨m5,k1,k2⟩:=X1s (o:=0) (n:=2) (v:=posV 0 0) (c':=[I 0,I 0]) g4 rfl (Nat.zero_le _) (by show 0 + 2 ≤ 2; omega) rfl rfl
 have l5:X7 true 2 (pt m0.next 0 0) m5=some (posV 0 0):=Xx (by rw [k2.get,Mem.get_put,if_pos rfl]) (by show 2 ≤ 2; omega) rfl
 have F2:Fb m.next m0 m2:=F1.trans (n2.toFb (by omega))
 have F3:Fb m.next m0 m3:=F2.trans (p2.toFb (by omega))
 have F4:Fb m.next m0 m4:=F3.trans { next:=r4.next,low:=r4.low,low2:=fun x a b=>r4.low2 x a (by omega),get:=fun b hb=>r4.get b (by omega),lo:=r4.lo }
 have F5:Fb m.next m0 m5:=F4.trans (((Fb.refl m.next m4).put _ (by omega)).meq k2)
 have hn5:m5.next=m4.next:=by rw [k2.next,Mem.next_put]
 have hO5:OutAt m.next m5 L l:={
  out:=fun q=>by
   obtain ⟨a,b,c,ty,e⟩:=r2.out q
   exact ⟨by omega,by omega,c,ty,by rw [k2.get,Mem.get_put,if_neg (by omega)]; exact e⟩
  ls:=fun x hx=>by
   obtain ⟨⟨a1,a2,a3,a4,ty,a5⟩,b⟩:=r2.ls x hx
   exact ⟨⟨a1,by omega,by omega,a4,ty,by rw [k2.get,Mem.get_put,if_neg (by omega)]; exact a5⟩,b⟩ }
 have hx:Q8a ⟨TA (d + 3),18446744073709551616⟩ (sv s) m0=some (.tuple ⟨[slV L l.length 2,posV 0 0,I 0]⟩,m5):=by
  unfold Q8a Qf3
  have hc:=c_check s (d + 2) m1
  have hc:TA (d + 3) Qcy [sv s] m1=some (.tuple ⟨[.agg #[.int .i64 (Xl s).1,.int .i64 (Xl s).2.1],.int .i64 (Xl s).2.2]⟩,m1):=hc
  have e0:bin .neq true true .int (.int .i64 (Xl s).2.2) (.int .i64 0)=some (.bool false):=by rw [Q4z,decide_eq_false (by omega)]
  rw [X12,hm1]
  simp only [hc,X6,ex0,ex1,X4,X12,n1,Xp,e0,Xa]
  unfold Qgx Qgy
  simp only [p1,X6,p3.len,X4]
  unfold Qgz
  refine Eq.trans r1 ?_
  unfold Q96
  have eb:Xi Q2 [(0,1),(1,1)] []=some (posV 0 0):=Eq.trans rfl rfl
  have k1:X8 2 (pt m0.next 0 0) (posV 0 0) m4=some m5:=k1
  simp only [eb,X4,k1,Xp,l5]
  exact obL _ _ _ _
 rw [← hm0] at hx F5
 by_cases hl:l=[]
 ·subst hl
  have hv:refs m.next 8 (.tuple ⟨[slV L ([]:List (Ln × Lc)).length 2,posV 0 0,I 0]⟩)=true:=rfl
  have:=X1x hx F5 hv
  rw [hm0] at this
  exact ⟨m,L,[],this,⟨fun q=>absurd rfl q,fun x hx=>by cases hx⟩,r3,.refl _ _⟩
 ·have hlz:l.length ≠ 0:=fun e=>hl (List.eq_nil_of_length_eq_zero e)
  have hLb:=(hO5.out hl).1
  have hv:refs m.next 8 (.tuple ⟨[slV L l.length 2,posV 0 0,I 0]⟩)=false:=by
   have h1:=Xmh (L:=L) (n:=l.length) (k:=m.next) (sz:=2) hlz hLb
   unfold slV at h1 ⊢
   rw [if_neg hlz] at h1 ⊢
   have h1:Nat.blt L.b m.next=false:=h1
   show (Nat.blt L.b m.next && _)=false
   rw [h1]
   rfl
  obtain ⟨m6,o1,o2,o3,o4⟩:=Xtr hx (Fb.toFr F5) hv
  rw [hm0] at o1
  exact ⟨m6,L,l,o1,{
   out:=fun q=>by
    obtain ⟨a,b,c,ty,e⟩:=hO5.out q
    exact ⟨a,by omega,c,ty,by rw [o4]; exact e⟩
   ls:=fun x hx=>by
    obtain ⟨a,b⟩:=hO5.ls x hx
    exact ⟨a.keep (by omega) (o4 _),b⟩ },r3,o2⟩
end Go.Ab.Sh

set_option maxRecDepth 100000
namespace Go.Ab
open Go
theorem NR.newK {cap:Nat} {m:Mem} {φ:Phi} {X:NX} (h:NR cap m φ X) (hX:X [1]=none) (hn:∀ l,X [] ≠ some (.c l)) (vs:List Value) (h1:vs.all one=true) (ty:Option Nat):NR cap (m.push (.cells vs 0 0 false ty)) (φ.set [1] ⟨m.next,0,0⟩) (X.set [1] (some (.c (vs.map .v)))):=by
 have hd:∀ a,X.set [1] (some (.c (vs.map .v))) a ≠ none→a ≠ [1]→X a ≠ none:=fun a ha hne=>by rwa [NX.set_ne _ _ hne] at ha
 have hφ:∀ a,a ≠ [1]→(φ.set [1] ⟨m.next,0,0⟩) a=φ a:=fun a ha=>Phi.set_ne _ _ ha
 have hg:∀ b,b < m.next→(m.push (.cells vs 0 0 false ty)).get b=m.get b:=fun b hb=>by rw [Mem.get_push,if_neg (by omega)]
 have hk:∀ (a:Key) (i:Nat) (l:List Cl),X a=some (.c l)→i :: a ≠ [1]:=fun a i l ha e=>by
  injection e with e1 e2
  rw [e2] at ha
  exact hn l ha
 exact {
  inj:=fun a b ha hb e=>by
   by_cases e1:a=[1]
   ·by_cases e2:b=[1]
    ·rw [e1,e2]
    ·rw [e1,Phi.set_eq,hφ b e2] at e
     have:=h.hi b (hd b hb e2)
     have e:m.next=(φ b).b:=e
     omega
   ·by_cases e2:b=[1]
    ·rw [e2,Phi.set_eq,hφ a e1] at e
     have:=h.hi a (hd a ha e1)
     have e:(φ a).b=m.next:=e
     omega
    ·rw [hφ a e1,hφ b e2] at e
     exact h.inj a b (hd a ha e1) (hd b hb e2) e
  hi:=fun a ha=>by
   by_cases e1:a=[1]
   ·rw [e1,Phi.set_eq]; exact Nat.lt_succ_self _
   ·rw [hφ a e1]
    exact Nat.lt_succ_of_lt (h.hi a (hd a ha e1))
  r2:=fun a ha=>by
   by_cases e1:a=[1]
   ·rw [e1,Phi.set_eq]; show 0 < 2; omega
   ·rw [hφ a e1]; exact h.r2 a (hd a ha e1)
  at':=fun a ob ha=>by
   by_cases e1:a=[1]
   ·subst e1
    rw [NX.set_eq] at ha
    cases ha
    refine ⟨ty,?_⟩
    rw [Phi.set_eq,X8b]
    show (m.push _).get m.next=_
    rw [Mem.get_push,if_pos rfl]
   ·rw [NX.set_ne _ _ e1] at ha
    have ha':X a ≠ none:=by rw [ha]; simp
    have:=h.at' a ob ha
    cases ob with
    | c l2 =>
     obtain ⟨ty3,q3⟩:=this
     refine ⟨ty3,?_⟩
     rw [hφ a e1,hg _ (h.hi a ha'),X8n (φ:=φ) (fun o n sz _ _=>hφ _ (hk a o _ ha))]
     exact q3
    | m es cl =>
     show (m.push _).get ((φ.set [1] ⟨m.next,0,0⟩) a).b=_
     rw [hφ a e1,hg _ (h.hi a ha')]
     exact this
  ok:=fun a l2 ha=>by
   by_cases e1:a=[1]
   ·subst e1
    rw [NX.set_eq] at ha
    cases ha
    rw [List.all_eq_true] at h1 ⊢
    intro c hc
    obtain ⟨y,hy,rfl⟩:=List.mem_map.mp hc
    exact h1 y hy
   ·rw [NX.set_ne _ _ e1] at ha
    exact h.ok a l2 ha
  ow:=fun a l2 i n' sz' ha hi=>by
   by_cases e1:a=[1]
   ·subst e1
    rw [NX.set_eq] at ha
    cases ha
    rw [List.getElem?_map] at hi
    cases hq:vs[i]? with
    | none=>rw [hq] at hi; cases hi
    | some y=>rw [hq] at hi; cases hi
   ·rw [NX.set_ne _ _ e1] at ha
    rw [NX.set_ne _ _ (hk a i _ ha)]
    exact h.ow a l2 i n' sz' ha hi
  par:=fun i j a ha=>by
   have hne:i :: j :: a ≠ [1]:=fun e=>by injection e with e1 e2; cases e2
   obtain ⟨l5,n5,sz5,z1,z2,z3⟩:=h.par i j a (hd _ ha hne)
   have:j :: a ≠ [1]:=fun e=>by rw [e,hX] at z1; cases z1
   exact ⟨l5,n5,sz5,by rw [NX.set_ne _ _ this]; exact z1,z2,z3⟩ }
theorem NR.dropK {cap:Nat} {m:Mem} {φ:Phi} {X:NX} (h:NR cap m φ X) (hX:∀ (l:List Cl) (i n sz:Nat),X [1]=some (.c l)→l[i]? ≠ some (Cl.s n sz)) (hn:∀ l,X [] ≠ some (.c l)):NR cap m φ (X.set [1] none):=by
 have hne:∀ a,X.set [1] none a ≠ none→a ≠ [1]:=fun a ha e=>by rw [e,NX.set_eq] at ha; exact ha rfl
 have hd:∀ a,X.set [1] none a ≠ none→X a ≠ none:=fun a ha=>by have:=hne a ha; rwa [NX.set_ne _ _ this] at ha
 have hk:∀ (a:Key) (i:Nat) (l:List Cl),X a=some (.c l)→i :: a ≠ [1]:=fun a i l ha e=>by
  injection e with e1 e2
  rw [e2] at ha
  exact hn l ha
 exact {
  inj:=fun a b ha hb e=>h.inj a b (hd a ha) (hd b hb) e
  hi:=fun a ha=>h.hi a (hd a ha)
  r2:=fun a ha=>h.r2 a (hd a ha)
  at':=fun a ob ha=>by
   have:=hne a (by rw [ha]; simp)
   rw [NX.set_ne _ _ this] at ha
   exact h.at' a ob ha
  ok:=fun a l2 ha=>by
   have:=hne a (by rw [ha]; simp)
   rw [NX.set_ne _ _ this] at ha
   exact h.ok a l2 ha
  ow:=fun a l2 i n' sz' ha hi=>by
   have:=hne a (by rw [ha]; simp)
   rw [NX.set_ne _ _ this] at ha
   rw [NX.set_ne _ _ (hk a i _ ha)]
   exact h.ow a l2 i n' sz' ha hi
  par:=fun i j a ha=>by
   obtain ⟨l5,n5,sz5,z1,z2,z3⟩:=h.par i j a (hd _ ha)
   have:j :: a ≠ [1]:=fun e=>by
    rw [e] at z1
    exact hX l5 i n5 sz5 z1 z2
   exact ⟨l5,n5,sz5,by rw [NX.set_ne _ _ this]; exact z1,z2,z3⟩ }
end Go.Ab
namespace Go.Ab.Sh
open Go Go.Ab Go.Lib
variable {c:Cx} {m0 m:Mem} {φ0 φ:Phi} {s0 s s':PSt} {cap δ:Nat} {ts:List Tmp} {x:Option Rs} {Q:Value→Nat→Phi→PSt→Prop} {v:Value} {cu:Cu}
noncomputable def X6q (c:Cx) (s:PSt):PSt:=if s.blk=X76 then Xce c s else if s.blk=Xd4 then Xiv c s else if s.blk=bAsk then askC c s else if s.blk=Xek then Xi3 c s else bgpC c s
inductive BlkOk (s:PSt):Prop where
 | none (h:s.blk=0)
 | iface (h:s.blk=X76) (n:0 < nOf s.X [0] 3)
 | rule (h:s.blk=Xd4) (n:0 < nOf s.X [0] 4)
 | ask (h:s.blk=bAsk) (n:Xv5 s.X)
 | ospf (h:s.blk=Xek) (n:0 < nOf s.X [0] 10)
 | bgp (h:s.blk=bBgp) (n:0 < nOf s.X [0] 11)
theorem PaD.mono {δ':Nat} {y:Option Rs} {w:Value} {S:PSt} (h:PaD c cap δ m φ s y w S) (hd:δ ≤ δ'):PaD c cap δ' m φ s y w S:=by
 obtain ⟨v',m1,cap1,φ1,s1,a1,a2,a3,a4,a5,a6⟩:=h
 exact ⟨v',m1,cap1,φ1,s1,a1,a2,a3,a4,by omega,a6⟩
theorem Xx9:X76 ≠ 0∧Xd4 ≠ 0∧bAsk ≠ 0∧Xek ≠ 0∧bBgp ≠ 0∧Xd4 ≠ X76∧bAsk ≠ X76∧bAsk ≠ Xd4∧Xek ≠ X76∧Xek ≠ Xd4∧Xek ≠ bAsk∧bBgp ≠ X76∧bBgp ≠ Xd4∧bBgp ≠ bAsk∧bBgp ≠ Xek:=by decide
theorem Xti (h:PS c cap m φ s) (hcb:cap + c.ws.length + 3 ≤ 8589934592) (hb:BlkOk s) (h0:s.blk ≠ 0) (d:Nat):PaD c cap (c.ws.length + 3) m φ s (X59 (TA (d + 9)) (blkV c s.blk) [pt c.C 0 0] m) (.tuple ⟨[]⟩) (X6q c s):=by
 obtain ⟨n1,n2,n3,n4,n5,e1,e2,e3,e4,e5,e6,e7,e8,e9,e10⟩:=Xx9
 have hv:blkV c s.blk=.func (.func s.blk) ⟨[pt c.P 0 0]⟩ ⟨[]⟩:=by unfold blkV; rw [if_neg h0]
 rw [hv]
 unfold X6q
 cases hb with
 | none h=>exact absurd h h0
 | iface hh n =>
  rw [hh,if_pos rfl]
  exact (Xtg h (by omega) n d).pad
 | rule hh n =>
  rw [hh,if_neg e1,if_pos rfl]
  exact (Xw2 h (by omega) n d).mono (by omega)
 | ask hh n =>
  rw [hh,if_neg e2,if_neg e3,if_pos rfl]
  exact (Xyl h (by omega) n d).mono (by omega)
 | ospf hh n =>
  rw [hh,if_neg e4,if_neg e5,if_neg e6,if_pos rfl]
  exact (Xvn h (by omega) n d).mono (by omega)
 | bgp hh n =>
  rw [hh,if_neg e7,if_neg e8,if_neg e9,if_neg e10]
  exact (Xxf h (by omega) n d).mono (by omega)
noncomputable def endL (c:Cx) (s:PSt):PSt:=
 let s2:=if X2w c s.cu=true then s.at (X60 s.cu (wdC c s.cu.pl).2 130) else s
 if bOf s2.X [0] 15=true then s2.at (X60 s2.cu (wdC c 0).2 7) else if bOf s2.X [0] 16=true then s2.at (X60 s2.cu (wdC c 0).2 120) else s2
noncomputable def X4s (c:Cx) (s:PSt) (ind:Nat):PSt:=
 endL c (if ind=0 then topC c { s with blk:=0 } else if ind=1∧s.blk ≠ 0 then X6q c s else s.at (X60 s.cu (wdC c 0).2 70))
theorem X52 (s:PSt) (ws:List Str):(Xz s ws).blk=s.blk:=rfl
theorem Xis (s:PSt) (cu:Cu):(s.at cu).blk=s.blk:=rfl
theorem Xeh (c:Cx) (s:PSt) (e:Int):(badS c s e).blk=s.blk:=rfl
theorem Xd8 (s:PSt) (k:Key) (o:Nat) (cs:List Cl):(s.app k o cs).blk=s.blk:=rfl
theorem Xbl (s:PSt) (k:Key) (o:Nat) (xs:List Value):(s.sto k o xs).blk=s.blk:=rfl
theorem Xvg (s:PSt) (k:Key) (o:Nat) (xs:List Value):(s.adp k o xs).blk=s.blk:=rfl
theorem Xs2 (s:PSt) (k:Key) (o:Nat) (cs:List Cl) (xs:List Value):(s.adopt k o cs xs).blk=s.blk:=rfl
theorem Xlk (c:Cx) (k:Key) (o:Nat):∀ (f:Nat) (s:PSt),(X2n c k o f s).blk=s.blk
 | 0,s=>rfl
 | f + 1,s=>by
  unfold X2n
  try dsimp only
  split
  ·exact Xlk c k o f _
  ·rfl
theorem Xok (c:Cx) (s:PSt):(Xce c s).blk=s.blk:=by
 unfold Xce
 try dsimp only
 simp only [apply_ite PSt.blk,X52,Xbl,Xis,Xeh,ite_self]
theorem Xsd (c:Cx) (s:PSt):(Xiv c s).blk=s.blk:=rfl
theorem Xwm (c:Cx) (s:PSt) (k:Key) (b:Nat):(setC c s k b).2.blk=s.blk:=by
 unfold setC
 try dsimp only
 simp only [apply_ite PSt.blk,Xvg,Xlk,Xbl,Xis,Xeh,ite_self]
theorem Xw8 (c:Cx) (s:PSt):(askC c s).blk=s.blk:=by
 unfold askC
 try dsimp only
 simp only [apply_ite PSt.blk,X52,Xwm,Xbl,Xis,Xeh,ite_self]
theorem Xtf (c:Cx) (s:PSt):(Xi3 c s).blk=s.blk:=by
 unfold Xi3
 try dsimp only
 simp only [apply_ite PSt.blk,X52,Xd8,Xbl,Xis,Xeh,ite_self]
theorem Xy4 (s:PSt) (b:Nat) (i:Option Nat) (o:Nat) (yl:List Value) (ws:List Str):(X7y s b i o yl ws).blk=s.blk:=by
 unfold X7y
 cases i <;> simp only [apply_ite PSt.blk,X52,Xd8,Xbl,ite_self]
theorem Xwb (c:Cx) (s:PSt):(bgpC c s).blk=s.blk:=by
 unfold bgpC
 try dsimp only
 rw [Xcj]
 unfold nbR
 try dsimp only
 simp only [apply_ite PSt.blk,X52,Xd8,Xbl,Xis,Xeh,Xy4,ite_self]
theorem Xq1 (c:Cx) (s:PSt):(X6q c s).blk=s.blk:=by
 unfold X6q
 simp only [apply_ite PSt.blk,Xok,Xsd,Xw8,Xtf,Xwb,ite_self]
theorem Xeb {X:NX} {k:Key} (h:k ≠ [0]) (o:Nat) (xs:List Value):stF X k o xs [0]=X [0]:=by
 cases hx:X k with
 | none=>unfold stF; rw [hx]
 | some ob =>
  cases ob with
  | c l=>rw [X1c hx,NX.set_ne _ _ (Ne.symm h)]
  | m es cl=>unfold stF; rw [hx]
theorem Xy6 {X:NX} {k:Key} (h:k ≠ [0]) (hn:k ≠ []) (o:Nat) (cs:List Cl):apF X k o cs [0]=X [0]:=by
 cases hx:X k with
 | none=>unfold apF; rw [hx]
 | some ob =>
  cases ob with
  | c l =>
   unfold apF
   rw [hx]
   show (NX.set _ _ _) [0]=_
   rw [NX.set_ne _ _ (Ne.symm h),NX.set_ne _ _ (fun e=>by injection e with e1 e2; exact hn e2.symm)]
  | m es cl=>unfold apF; rw [hx]
theorem Xzc {X:NX} {k:Key} (h:k ≠ [0]) (hn:k ≠ []) (o:Nat) (vs:List Value):adF X k o vs [0]=X [0]:=by
 cases hx:X k with
 | none=>unfold adF; rw [hx]
 | some ob =>
  cases ob with
  | c l =>
   rw [Xi9 hx,NX.set_ne _ _ (Ne.symm h),NX.set_ne _ _ (fun e=>by injection e with e1 e2; exact hn e2.symm)]
  | m es cl=>unfold adF; rw [hx]
theorem Xum (c:Cx) {k:Key} (h:k ≠ [0]) (hn:k ≠ []) (o:Nat):∀ (f:Nat) (s:PSt),(X2n c k o f s).X [0]=s.X [0]
 | 0,s=>rfl
 | f + 1,s=>by
  unfold X2n
  try dsimp only
  have e:((s.at (Xf c s.cu 1 4294967295).2).app k o [.v (.int .u32 (Xf c s.cu 1 4294967295).1)]).X [0]=s.X [0]:=Xy6 h hn _ _
  split
  ·rw [Xum c h hn o f _,e]
  ·exact e
noncomputable def Root (X:NX):Prop:=∃ l,X [0]=some (.c l)∧l.length=18
theorem Root.of {X X':NX} (h:Root X) (e:X' [0]=X [0]):Root X':=by
 obtain ⟨l,a,b⟩:=h
 exact ⟨l,by rw [e]; exact a,b⟩
theorem Root.st {X:NX} (h:Root X) (o:Nat) (x:Value) (ho:o < 18):Root (stF X [0] o [x])∧∀ j,j ≠ o→cl (stF X [0] o [x]) [0] j=cl X [0] j:=by
 obtain ⟨l,a,b⟩:=h
 rw [X1c a]
 refine ⟨⟨_,NX.set_eq _ _ _,by simp; omega⟩,fun j hj=>?_⟩
 rw [X88,X8v a]
 have g:=get_put (l:=l) (z:=[Cl.v x]) (o:=o) (by show o + 1 ≤ l.length; omega) j
 have g:(l.take o ++ [x].map Cl.v ++ l.drop (o + [x].length))[j]?=_:=g
 rw [g,if_neg (by show ¬ (o ≤ j∧j < o + 1); omega)]
theorem Root.st_at {X:NX} (h:Root X) (o:Nat) (x:Value) (ho:o < 18):cl (stF X [0] o [x]) [0] o=.v x:=by
 obtain ⟨l,a,b⟩:=h
 rw [X1c a,X88]
 have g:=get_put (l:=l) (z:=[Cl.v x]) (o:=o) (by show o + 1 ≤ l.length; omega) o
 have g:(l.take o ++ [x].map Cl.v ++ l.drop (o + [x].length))[o]?=_:=g
 rw [g,if_pos (by show o ≤ o∧o < o + 1; omega),Nat.sub_self]
 rfl
theorem Root.ap {X:NX} (h:Root X) (f:Nat) (cs:List Cl) (hf:f < 18):Root (apF X [0] f cs)∧nOf (apF X [0] f cs) [0] f=nOf X [0] f + 1∧∀ j,j ≠ f→cl (apF X [0] f cs) [0] j=cl X [0] j:=by
 obtain ⟨l,a,b⟩:=h
 have e:apF X [0] f cs=(X.set (f :: [0]) (some (.c (X23 X (f :: [0]) ++ cs)))).set [0] (some (.c (l.set f (.s (nOf X [0] f + 1) cs.length)))):=by unfold apF; rw [a]
 rw [e]
 refine ⟨⟨_,NX.set_eq _ _ _,by rw [List.length_set]; exact b⟩,?_,fun j hj=>?_⟩
 ·show (match cl _ [0] f with | .s n _=>n | _=>0)=_
  rw [X88,List.getElem?_set,if_pos rfl,if_pos (by omega)]
  rfl
 ·rw [X88,X8v a,List.getElem?_set,if_neg (Ne.symm hj)]
theorem Root.single {s:PSt} (h:Root s.X) (ws:List Str):Root (X1z s ws).X∧∀ j,j ≠ 15→cl (X1z s ws).X [0] j=cl s.X [0] j:=by
 obtain ⟨a,b⟩:=h.st 15 (.bool (bOf s.X [0] 15 || decide (X2i [32] ws ∈ setOf s.X))) (by omega)
 refine ⟨a.of ?_,fun j hj=>?_⟩
 ·unfold X1z
  dsimp only
  rw [NX.set_ne _ _ (by decide)]
 ·unfold X1z
  dsimp only
  rw [Xri _ _ _ (by decide),b j hj]
theorem Xpf {s:PSt} (h:Root s.X) (ws:List Str) {k:Key} (h0:k ≠ [0]) (h2:k ≠ [2]):(X1z s ws).X k=s.X k:=by
 obtain ⟨l,a,_⟩:=h
 unfold X1z
 try dsimp only
 rw [NX.set_ne _ _ h2,X1c a,NX.set_ne _ _ h0]
theorem Xyk (c:Cx) (s:PSt) (hr:Root s.X):iOf (askC c s).X [0] 17=iOf s.X [0] 17:=by
 have ins:∀ (r:PSt) (ws:List Str),r.X [0]=s.X [0]→iOf (Xz r ws).X [0] 17=iOf s.X [0] 17:=fun r ws e=>by
  unfold Xz iOf vOf
  rw [((hr.of e).single _).2 17 (by omega)]
  unfold cl
  rw [e]
 have h0:askK s.X ≠ [0]:=fun e=>by unfold askK at e; injection e with e1 e2; cases e2
 have hn:askK s.X ≠ []:=fun e=>by unfold askK at e; cases e
 unfold askC
 try dsimp only
 generalize askK s.X=K at h0 hn
 generalize askB s.X=b
 split
 ·refine ins _ _ ?_
  have:∀ (p:Prop) [Decidable p] (a b:PSt),a.X [0]=s.X [0]→b.X [0]=s.X [0]→(if p then a else b).X [0]=s.X [0]:=fun p _ a b ha hb=>by split <;> assumption
  exact this _ _ _ (Xeb h0 _ _) (this _ _ _ (Xeb h0 _ _) (this _ _ _ (Xeb h0 _ _) (this _ _ _ (Xeb h0 _ _) (this _ _ _ (Xeb h0 _ _) rfl))))
 ·split
  ·refine ins _ _ ?_
   unfold setC
   try dsimp only
   have:∀ (p:Prop) [Decidable p] (a b:PSt),a.X [0]=s.X [0]→b.X [0]=s.X [0]→(if p then a else b).X [0]=s.X [0]:=fun p _ a b ha hb=>by split <;> assumption
   exact this _ _ _ (Xeb h0 _ _) (this _ _ _ (Xeb h0 _ _) (this _ _ _ (Xeb h0 _ _) (this _ _ _ ((Xzc h0 hn _ _).trans (Xeb h0 _ _)) (this _ _ _ (Xum c h0 hn _ _ _) (this _ _ _ (Xeb h0 _ _) rfl)))))
  ·split
   ·exact ins _ _ (Xeb h0 _ _)
   ·rfl
end Go.Ab.Sh

set_option maxRecDepth 100000
namespace Go.Ab.Sh
open Go Go.Ab Go.Lib
variable {c:Cx} {m0 m:Mem} {φ0 φ:Phi} {s0 s s':PSt} {cap δ:Nat} {ts:List Tmp} {x:Option Rs} {Q:Value→Nat→Phi→PSt→Prop} {v:Value} {cu:Cu}
theorem Xws {X X':NX} {k:Key} (h:X' k=X k) (o:Nat):cl X' k o=cl X k o:=by unfold cl; rw [h]
theorem row_root (s:PSt) (hr:Root s.X) (n:Str) (cs:List Cl) {o sz:Nat} (ho:o < 18):Root (rowOf s o sz n cs).2.X∧(rowOf s o sz n cs).1 < nOf (rowOf s o sz n cs).2.X [0] o∧(rowOf s o sz n cs).2.blk=s.blk:=by
 unfold rowOf
 cases hf:X77 s.X [0] o sz 0 n with
 | some i =>
  have:=X7p _ _ _ _ _ _ hf
  exact ⟨hr,by show i < nOf s.X [0] o; omega,rfl⟩
 | none =>
  obtain ⟨a,b,_⟩:=hr.ap o cs ho
  exact ⟨a,by show nOf s.X [0] o < nOf (apF s.X [0] o cs) [0] o; omega,rfl⟩
theorem Xnf (s:PSt) (name:Str) (act:Nat) (seq:Int) (hr:Root s.X) (h:PS c cap m φ (Xbk s name act seq)):Xv5 (Xbk s name act seq).X:=by
 obtain ⟨r1,r2,_⟩:=row_root s hr name [.v (sv name),.s 0 15,.v (.bool false)] (o:=9) (sz:=3) (by omega)
 obtain ⟨_,q2,_,_,q5⟩:=h.dev (f:=9) (r':=12) (sz:=3) rfl (by omega) rfl
 unfold Xbk at q2 q5 ⊢
 dsimp only at q2 q5 ⊢
 generalize rowOf s 9 3 name [.v (sv name),.s 0 15,.v (.bool false)]=R at r1 r2 q2 q5 ⊢
 generalize hcs:([.v (.int .i64 seq),.v (.int .u8 (act:Int)),.v (sv []),.v (sv []),.v (.int .i64 (-1)),.v (.int .i64 (-1)),.v (.int .i64 (-1)),.v (.int .i64 (-1)),.v (.int .i64 (-1)),.v (.int .i64 (-1)),.s 0 1,.v (.bool false),.s 0 1,.v (u32 0),.v (.int .i64 0)]:List Cl)=cs at q2 q5 ⊢
 obtain ⟨t1,t2⟩:=r1.st 17 (I R.1) (by omega)
 have t3:=r1.st_at 17 (I R.1) (by omega)
 have a0:((R.2.sto [0] 17 [I R.1]).app [9,0] (R.1 * 3 + 1) cs).X [0]=(R.2.sto [0] 17 [I R.1]).X [0]:=Xy6 (by decide) (by decide) _ _
 have u1:Root ((R.2.sto [0] 17 [I R.1]).app [9,0] (R.1 * 3 + 1) cs).X:=Root.of t1 a0
 obtain ⟨w1,w2⟩:=u1.single [[114,111,117,116,101,45,109,97,112],name,X2a seq.toNat]
 have e17:cl (X1z ((R.2.sto [0] 17 [I R.1]).app [9,0] (R.1 * 3 + 1) cs) [[114,111,117,116,101,45,109,97,112],name,X2a seq.toNat]).X [0] 17=.v (I R.1):=by
  rw [w2 17 (by omega),Xws a0]
  exact t3
 have e9:cl (X1z ((R.2.sto [0] 17 [I R.1]).app [9,0] (R.1 * 3 + 1) cs) [[114,111,117,116,101,45,109,97,112],name,X2a seq.toNat]).X [0] 9=cl R.2.X [0] 9:=by
  rw [w2 9 (by omega),Xws a0]
  exact t2 9 (by omega)
 have e90:(X1z ((R.2.sto [0] 17 [I R.1]).app [9,0] (R.1 * 3 + 1) cs) [[114,111,117,116,101,45,109,97,112],name,X2a seq.toNat]).X [9,0]=((R.2.sto [0] 17 [I R.1]).app [9,0] (R.1 * 3 + 1) cs).X [9,0]:=Xpf u1 _ (by decide) (by decide)
 generalize hS:X1z ((R.2.sto [0] 17 [I R.1]).app [9,0] (R.1 * 3 + 1) cs) [[114,111,117,116,101,45,109,97,112],name,X2a seq.toNat]=S at e17 e9 e90
 have hi:iOf S.X [0] 17=(R.1:Int):=by unfold iOf vOf; rw [e17]
 have hn:nOf S.X [0] 9=nOf R.2.X [0] 9:=by unfold nOf; rw [e9]
 have hSX:(Xaw ((R.2.sto [0] 17 [I R.1]).app [9,0] (R.1 * 3 + 1) cs) bAsk [[114,111,117,116,101,45,109,97,112],name,X2a seq.toNat]).X=S.X:=by rw [← hS]; rfl
 rw [hSX] at q5 ⊢
 obtain ⟨l',a1,a2,_⟩:=q5 (by omega)
 have hend:=row_end (sz:=3) r2
 refine ⟨by rw [hi]; exact Int.natCast_nonneg _,by rw [hi,Int.toNat_natCast,hn]; exact r2,?_⟩
 rw [hi,Int.toNat_natCast]
 rw [e90] at a1
 have a1:apF (R.2.sto [0] 17 [I R.1]).X [9,0] (R.1 * 3 + 1) cs [9,0]=some (.c l'):=a1
 have key:nOf S.X [9,0] (R.1 * 3 + 1)=nOf (apF (R.2.sto [0] 17 [I R.1]).X [9,0] (R.1 * 3 + 1) cs) [9,0] (R.1 * 3 + 1):=by unfold nOf; rw [Xws e90]; rfl
 rw [key]
 cases hx:(R.2.sto [0] 17 [I R.1]).X [9,0] with
 | none =>
  unfold apF at a1
  rw [hx] at a1
  have a1:(R.2.sto [0] 17 [I R.1]).X [9,0]=some (.c l'):=a1
  rw [hx] at a1; cases a1
 | some ob =>
  cases ob with
  | m es cl =>
   unfold apF at a1
   rw [hx] at a1
   have a1:(R.2.sto [0] 17 [I R.1]).X [9,0]=some (.c l'):=a1
   rw [hx] at a1; cases a1
  | c l =>
   have e:apF (R.2.sto [0] 17 [I R.1]).X [9,0] (R.1 * 3 + 1) cs=((R.2.sto [0] 17 [I R.1]).X.set ((R.1 * 3 + 1) :: [9,0]) (some (.c (X23 (R.2.sto [0] 17 [I R.1]).X ((R.1 * 3 + 1) :: [9,0]) ++ cs)))).set [9,0] (some (.c (l.set (R.1 * 3 + 1) (.s (nOf (R.2.sto [0] 17 [I R.1]).X [9,0] (R.1 * 3 + 1) + 1) cs.length)))):=by unfold apF; rw [hx]
   rw [e,NX.set_eq] at a1
   cases a1
   rw [List.length_set] at a2
   rw [e]
   show 0 < (match cl _ [9,0] (R.1 * 3 + 1) with | .s n _=>n | _=>0)
   rw [X88,List.getElem?_set,if_pos rfl,if_pos (by rw [a2,hn]; omega)]
   exact Nat.succ_pos _
theorem Xad (s:PSt) (hr:Root s.X) (b:Nat) (ws:List Str):Root (Xaw s b ws).X:=(hr.single ws).1
theorem Xz1 (s:PSt) (hr:Root s.X) (ws:List Str) (cs:List Cl):BlkOk ((Xaw s X76 ws).app [0] 3 cs):=by
 obtain ⟨_,b,_⟩:=(Xad s hr X76 ws).ap 3 cs (by omega)
 exact .iface rfl (Nat.lt_of_lt_of_eq (Nat.succ_pos _) b.symm)
theorem Xzg (s:PSt) (hr:Root s.X) (ws:List Str) (cs:List Cl):BlkOk ((Xaw s Xd4 ws).app [0] 4 cs):=by
 obtain ⟨_,b,_⟩:=(Xad s hr Xd4 ws).ap 4 cs (by omega)
 exact .rule rfl (Nat.lt_of_lt_of_eq (Nat.succ_pos _) b.symm)
theorem Xzj (s:PSt) (hr:Root s.X) (ws:List Str) (cs:List Cl):BlkOk ((Xaw s Xek ws).app [0] 10 cs):=by
 obtain ⟨_,b,_⟩:=(Xad s hr Xek ws).ap 10 cs (by omega)
 exact .ospf rfl (Nat.lt_of_lt_of_eq (Nat.succ_pos _) b.symm)
theorem Xyt (s:PSt) (hr:Root s.X) (ws:List Str) (cs:List Cl):BlkOk ((Xaw s bBgp ws).app [0] 11 cs):=by
 obtain ⟨_,b,_⟩:=(Xad s hr bBgp ws).ap 11 cs (by omega)
 exact .bgp rfl (Nat.lt_of_lt_of_eq (Nat.succ_pos _) b.symm)
theorem Xs4 (s:PSt):(Xch c s).blk=s.blk:=by
 unfold Xch
 extract_lets v a k d h x n e y g t
 clear_value t
 rfl
theorem Xn1 (s:PSt) (e:Int):(badS c s e).blk=s.blk:=rfl
theorem Xyu (s0:PSt) (hr:Root s0.X) (h0:s0.blk=0):BlkOk (ipC c s0):=by
 unfold ipC
 generalize Xk c s0.cu=w
 have hr1:Root (s0.at w.2).X:=hr
 have h1:(s0.at w.2).blk=0:=h0
 dsimp only
 generalize s0.at w.2=s at hr1 h1 ⊢
 split
 ·exact .none ((Xs4 s).trans h1)
 ·split
  ·exact Xzg (s.at (X1i c s.cu).2) hr1 _ _
  ·split
   ·refine .none ?_
    exact (Xd8 _ _ _ _).trans ((row_root (s.at (X54 c (X1i c s.cu).2).2) hr1 _ _ (o:=7) (by omega)).2.2.trans h1)
   ·split
    ·refine .none ?_
     exact (Xs2 _ _ _ _ _).trans ((row_root (s.at (X20 c (c.ws.length + 1) (oneC c (X1i c s.cu).2 [[112,101,114,109,105,116],[100,101,110,121]]).2).2) hr1 _ _ (o:=8) (by omega)).2.2.trans h1)
    ·split
     ·exact .none (by rw [Xd8]; exact h1)
     ·exact .none ((Xn1 s _).trans h1)
theorem Xpk (s:PSt) (hr:Root s.X):BlkOk (X6x c s):=by
 unfold X6x
 generalize oneC c s.cu [[111,115,112,102],[98,103,112]]=o
 dsimp only
 split
 ·exact Xzj (s.at (vrfC c o.2).2) hr _ _
 ·exact Xyt (s.at (vrfC c (Xf c o.2 1 4294967295).2).2) hr _ _
theorem Xy5 (s0:PSt) (hr:Root s0.X) (h0:s0.blk=0) (h:PS c cap m φ (topC c s0)):BlkOk (topC c s0):=by
 unfold topC at h ⊢
 generalize Xk c s0.cu=w at h ⊢
 have hr1:Root (s0.at w.2).X:=hr
 have h1:(s0.at w.2).blk=0:=h0
 dsimp only at h ⊢
 generalize s0.at w.2=s at h hr1 h1 ⊢
 by_cases e1:w.1=[104,111,115,116,110,97,109,101]
 ·rw [if_pos e1]
  exact .none (by show s.blk=0; exact h1)
 ·rw [if_neg e1] at h ⊢
  by_cases e2:w.1=[118,114,102]
  ·rw [if_pos e2]
   exact .none (by show s.blk=0; exact h1)
  ·rw [if_neg e2] at h ⊢
   by_cases e3:w.1=[105,110,116,101,114,102,97,99,101]
   ·rw [if_pos e3]
    exact Xz1 (s.at (X1i c s.cu).2) hr1 _ _
   ·rw [if_neg e3] at h ⊢
    by_cases e4:w.1=[105,112]
    ·rw [if_pos e4]
     exact Xyu s hr1 h1
    ·rw [if_neg e4] at h ⊢
     by_cases e5:w.1=[114,111,117,116,101,45,109,97,112]
     ·rw [if_pos e5] at h ⊢
      generalize X1i c s.cu=n at h ⊢
      generalize oneC c n.2 [[112,101,114,109,105,116],[100,101,110,121],[110,101,120,116]]=o at h ⊢
      generalize Xf c o.2 1 65535=q at h ⊢
      exact Xnf (s.at q.2) _ _ _ hr1 h |> fun a=>.ask rfl a
     ·rw [if_neg e5]
      by_cases e6:w.1=[114,111,117,116,101,114]
      ·rw [if_pos e6]
       exact Xpk s hr1
      ·rw [if_neg e6]
       exact .none ((Xn1 s _).trans h1)
theorem Xxg (c:Cx) (s:PSt):(endL c s).X=s.X∧(endL c s).blk=s.blk∧(endL c s).inn=s.inn:=by
 unfold endL
 try dsimp only
 split <;> (repeat' split) <;> exact ⟨rfl,rfl,rfl⟩
theorem BlkOk.congr {s s':PSt} (h:BlkOk s) (hX:s'.X=s.X) (hb:s'.blk=s.blk):BlkOk s':=by
 cases h with
 | none h=>exact .none (by rw [hb]; exact h)
 | iface h n=>exact .iface (by rw [hb]; exact h) (by rw [hX]; exact n)
 | rule h n=>exact .rule (by rw [hb]; exact h) (by rw [hX]; exact n)
 | ask h n=>exact .ask (by rw [hb]; exact h) (by rw [hX]; exact n)
 | ospf h n=>exact .ospf (by rw [hb]; exact h) (by rw [hX]; exact n)
 | bgp h n=>exact .bgp (by rw [hb]; exact h) (by rw [hX]; exact n)
theorem Xta (s:PSt) (hr:Root s.X) (h:BlkOk s) (h0:s.blk ≠ 0) (hX0:c.X0=s.X) (hp:PS c cap m φ (X6q c s)):BlkOk (X6q c s):=by
 have ge:=hp.ok.ge
 rw [hX0] at ge
 have hb:=Xq1 c s
 obtain ⟨n1,n2,n3,n4,n5,e1,e2,e3,e4,e5,e6,e7,e8,e9,e10⟩:=Xx9
 cases h with
 | none h=>exact absurd h h0
 | iface h n=>exact .iface (by rw [hb]; exact h) (Nat.lt_of_lt_of_le n (ge 3).1)
 | rule h n=>exact .rule (by rw [hb]; exact h) (Nat.lt_of_lt_of_le n (ge 4).1)
 | ask h n =>
  have e:X6q c s=askC c s:=by unfold X6q; rw [h,if_neg e2,if_neg e3,if_pos rfl]
  have hi:iOf (X6q c s).X [0] 17=iOf s.X [0] 17:=by rw [e]; exact Xyk c s hr
  exact .ask (by rw [hb]; exact h) ⟨by rw [hi]; exact n.pos,by rw [hi]; exact Nat.lt_of_lt_of_le n.lt (ge 9).1,by rw [hi]; exact Nat.lt_of_lt_of_le n.cl (ge _).2⟩
 | ospf h n=>exact .ospf (by rw [hb]; exact h) (Nat.lt_of_lt_of_le n (ge 10).1)
 | bgp h n=>exact .bgp (by rw [hb]; exact h) (Nat.lt_of_lt_of_le n (ge 11).1)
theorem PS.ldb (h:PS c cap m φ s) {o:Nat} (ho:o=15∨o=16):X7 false 1 (pt c.P o 0) m=some (.bool (bOf s.X [0] o)):=by
 obtain ⟨l,hk,hl18,ld⟩:=h.root
 obtain ⟨d,q1,q2⟩:=h.wt.get hk (r:=0) rfl (o:=o) (by omega)
 have hf:fdAt 0 o=some .b:=by rcases ho with rfl | rfl <;> rfl
 rw [hf] at q2
 cases d with
 | s n sz=>exact False.elim q2
 | v y =>
  obtain ⟨z,rfl⟩:=q2
  rw [ld o _ (.inr (by omega)) q1,Xu7 hk q1]
noncomputable abbrev d9 (d:Nat):Gt:=⟨TA (d + 9),18446744073709551616⟩
theorem Xtu (d:Nat) (k0:Value→Value→Value→Value→Value→Value→Mem→Option Rs) (p2 p3 p32 p31 p30:Value) {bf:Nat} (k:W c m0 φ0 s0 cap m φ s [(bf,0,[I c.ln,I (wdC c 0).2])]) :
  ∃ m',Q5z (d9 d) k0 (pt c.C 0 0) (pt c.P 0 0) (pt bf 0 0) p2 p3 p32 p31 p30 m=Q1k (d9 d) k0 (pt c.C 0 0) p2 p3 p32 p31 p30 (pt c.P 0 0) m'∧W c m0 φ0 s0 cap m' φ (endL c s) [(bf,0,[I c.ln,I (wdC c 0).2])]:=by
 have hm:TA (d + 9) Q18 [pt c.C 0 0] m=some (.bool (X2w c s.cu),m):=c_more k.ps (d + 8)
 have two:∀ (m1:Mem) (s1:PSt),W c m0 φ0 s0 cap m1 φ s1 [(bf,0,[I c.ln,I (wdC c 0).2])]→∃ m',Q9f (d9 d) k0 (pt c.P 0 0) (pt c.C 0 0) (pt bf 0 0) p2 p3 p32 p31 p30 m1=Q1k (d9 d) k0 (pt c.C 0 0) p2 p3 p32 p31 p30 (pt c.P 0 0) m'∧W c m0 φ0 s0 cap m' φ (if bOf s1.X [0] 15=true then s1.at (X60 s1.cu (wdC c 0).2 7) else if bOf s1.X [0] 16=true then s1.at (X60 s1.cu (wdC c 0).2 120) else s1) [(bf,0,[I c.ln,I (wdC c 0).2])]:=fun m1 s1 k1=>by
  have l15:=k1.ps.ldb (o:=15) (.inl rfl)
  have l16:=k1.ps.ldb (o:=16) (.inr rfl)
  have lf:X7 true 2 (pt bf 0 0) m1=some (posV c.ln (wdC c 0).2):=k1.lds (o:=0) (cs:=[I c.ln,I (wdC c 0).2]) (List.mem_cons_self ..) (by show 0 + 2 ≤ 2; omega) rfl
  unfold Q9f
  simp only [Xj,Xe,X4,Nat.zero_add,l15,l16,lf]
  cases h15:bOf s1.X [0] 15 with
  | true =>
   rw [Xc,if_pos rfl]
   obtain ⟨m2,a1,a2,a3⟩:=Xed k1.ps (wdC c 0).2 7 (by decide) (d + 8)
   have a1:TA (d + 9) Qs [pt c.C 0 0,posV c.ln (wdC c 0).2,.int .i64 7] m1=some (.tuple ⟨[]⟩,m2):=a1
   rw [a1,X6]
   exact ⟨m2,rfl,k1.go a2 a3⟩
  | false =>
   rw [Xa,if_neg (by decide)]
   cases h16:bOf s1.X [0] 16 with
   | true =>
    rw [Xc,if_pos rfl]
    obtain ⟨m2,a1,a2,a3⟩:=Xed k1.ps (wdC c 0).2 120 (by decide) (d + 8)
    have a1:TA (d + 9) Qs [pt c.C 0 0,posV c.ln (wdC c 0).2,.int .i64 120] m1=some (.tuple ⟨[]⟩,m2):=a1
    rw [a1,X6]
    exact ⟨m2,rfl,k1.go a2 a3⟩
   | false =>
    rw [Xa,if_neg (by decide)]
    exact ⟨m1,rfl,k1⟩
 unfold Q5z endL
 try dsimp only
 rw [hm,X6]
 cases hmo:X2w c s.cu with
 | true =>
  have hlt:=X8p hmo
  obtain ⟨p,p1,p2',p3',_,_,p6,_⟩:=k.ps.wl.ix (i:=s.cu.pl) hlt
  rw [Xc,if_pos rfl]
  have l0:X7 false 1 (pt c.C 0 0) m=some c.wv:=k.ps.ld rfl
  have l1:X7 false 1 (pt c.C 1 0) m=some (I s.cu.pl):=k.ps.ld rfl
  simp only [Xj,Xe,X4,Nat.zero_add,l0,l1,p1,p2',p6]
  obtain ⟨m2,a1,a2,a3⟩:=Xed k.ps (wdC c s.cu.pl).2 130 (by decide) (d + 8)
  have a1:TA (d + 9) Qs [pt c.C 0 0,.agg ⟨[I c.ln,I (wdC c s.cu.pl).2]⟩,.int .i64 130] m=some (.tuple ⟨[]⟩,m2):=a1
  rw [a1,X6]
  exact two m2 _ (k.go a2 a3)
 | false =>
  rw [Xa]
  simp only [Bool.false_eq_true,if_false]
  exact two m s k
end Go.Ab.Sh
