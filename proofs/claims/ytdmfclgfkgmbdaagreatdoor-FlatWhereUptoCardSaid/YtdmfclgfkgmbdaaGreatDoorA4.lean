/-
  What the functions of the program answer, at every text and every question. No conditions.
-/
import Derived.Test.YtdmfclgfkgmbdaaGreatDoorA3
import Derived.Test.YtdmfclgfkgmbdaaGreatDoorA1
import GoSem.ClaimChange
import Derived.IntWalk
import Derived.Test.YtdmfclgfkgmbdaaGreatDoorA0
import Derived.Test.YtdmfclgfkgmbdaaGreatDoorAb5
import Derived.Shelf.SlSortCmp.NoneTotal
set_option linter.unusedSimpArgs false
set_option linter.unusedVariables false
set_option maxRecDepth 100000
namespace Go.Ab.Sh
open Go Go.Ab Go.Lib
variable {c:Cx} {m0 m:Mem} {φ0 φ:Phi} {s0 s s':PSt} {cap δ:Nat} {ts:List Tmp} {x:Option Rs} {Q:Value→Nat→Phi→PSt→Prop} {v:Value} {cu:Cu}
noncomputable def bX (P O:Nat) (s:PSt):NX:=stF s.X [0] 12 [if s.blk=0 then .nilFunc else .func (.func s.blk) ⟨[pt P 0 0]⟩ ⟨[]⟩,sv s.inn,mapV O]
theorem Xwh (c:Cx) (s:PSt):toX c s=(bX c.P c.O s).set [1] (some (.c (cc c s.cu))):=rfl
theorem Xnw {P O:Nat} {s:PSt} (w:WT s.X) {k:Key} (h:k ≠ [0]):bX P O s k=s.X k:=by
 obtain ⟨l,a,_⟩:=w.root
 unfold bX
 rw [X1c a,NX.set_ne _ _ h]
theorem Xuk {P O:Nat} {s:PSt} (w:WT s.X) (l:List Cl):bX P O s [] ≠ some (.c l):=by
 rw [Xnw w (by decide)]
 intro e
 obtain ⟨r,h1,_⟩:=w.ty _ _ e
 cases h1
structure LI (B P O cap:Nat) (m:Mem) (φ:Phi) (s:PSt):Prop where
 nr:NR cap m φ (bX P O s)
 pP:φ [0]=⟨P,0,0⟩
 pO:φ [2]=⟨O,0,0⟩
 wt:WT s.X
 il:s.inn.length ≤ SB
 hB:∀ k,bX P O s k ≠ none→B ≤ (φ k).b
 bk:BlkOk s
theorem Xiu (ln:Nat):∀ (ws:List Wd) (i:Nat) (w:Wd),ws[i]?=some w→(X33 ln ws)[i * 3]?=some (sv w.1)∧(X33 ln ws)[i * 3 + 1]?=some (I ln)∧(X33 ln ws)[i * 3 + 2]?=some (I w.2)
 | [],i,w,h=>by simp at h
 | a :: l,0,w,h=>by cases h; exact ⟨rfl,rfl,rfl⟩
 | a :: l,i + 1,w,h=>by
  have ih:=Xiu ln l i w h
  have e:∀ j,(X33 ln (a :: l))[(i + 1) * 3 + j]?=(X33 ln l)[i * 3 + j]?:=fun j=>by
   unfold X33
   rw [List.flatMap_cons,show (i + 1) * 3 + j=(i * 3 + j) + 3 by omega]
   rfl
  have e0:=e 0
  rw [Nat.add_zero,Nat.add_zero] at e0
  rw [e0,e 1,e 2]
  exact ih
theorem Xtb (c:Cx) (b:Nat):bin .neq true true .func (blkV c b) .nilFunc=some (.bool (decide (b ≠ 0))):=by
 unfold blkV
 by_cases h:b=0
 ·rw [if_pos h,decide_eq_false (fun e=>e h),X1u]; rfl
 ·rw [if_neg h,decide_eq_true h,X1u]; rfl
theorem Xwj (d:Nat) (k0:Value→Value→Value→Value→Value→Value→Mem→Option Rs) (p2 p3 p32 p31 p30:Value) {B P O bl:Nat} (h:LI B P O cap m φ s) (hBm:B ≤ m.next) (Pr:Nat→Prop) (hPr:∀ b,Pr b→b < m.next∧∀ k,bX P O s k ≠ none→(φ k).b ≠ b) (x:Ln) (L:Lc) (hne:x.ws ≠ []) (hLr:L.r < 2)
  (hLg:∃ ty,m.get L.b=some (.cells (X33 x.ln x.ws) L.ver 0 false ty)) (hPL:Pr L.b) (hbl:Pr bl) (hblg:∃ ty,m.get bl=some (.cells [I x.ind,slV L x.ws.length 3] 0 0 false ty)) (hwl:x.ws.length ≤ 65536) (hwt:∀ w ∈ x.ws,w.1.length ≤ 65536∧w.2 ≤ 65536) (hcap:cap + x.ws.length + 3 ≤ 8589934592) :
  ∃ m' cap' φ' C,Qdr (d9 d) k0 (pt bl 0 0) (pt P 0 0) p2 p3 p32 p31 p30 m=Q1k (d9 d) k0 (pt C 0 0) p2 p3 p32 p31 p30 (pt P 0 0) m' ∧
   PS ⟨C,P,O,L.b,slV L x.ws.length 3,x.ws,x.ln,s.X⟩ cap' m' φ' (X4s ⟨C,P,O,L.b,slV L x.ws.length 3,x.ws,x.ln,s.X⟩ (s.at ⟨0,none⟩) x.ind)∧cap' ≤ cap + x.ws.length + 3∧BlkOk (X4s ⟨C,P,O,L.b,slV L x.ws.length 3,x.ws,x.ln,s.X⟩ (s.at ⟨0,none⟩) x.ind) ∧
   (∀ k,toX ⟨C,P,O,L.b,slV L x.ws.length 3,x.ws,x.ln,s.X⟩ (X4s ⟨C,P,O,L.b,slV L x.ws.length 3,x.ws,x.ln,s.X⟩ (s.at ⟨0,none⟩) x.ind) k ≠ none→B ≤ (φ' k).b)∧Fb B m m' ∧
   (∀ b,Pr b→m'.get b=m.get b∧b < m'.next∧∀ k,toX ⟨C,P,O,L.b,slV L x.ws.length 3,x.ws,x.ln,s.X⟩ (X4s ⟨C,P,O,L.b,slV L x.ws.length 3,x.ws,x.ln,s.X⟩ (s.at ⟨0,none⟩) x.ind) k ≠ none→(φ' k).b ≠ b):=by
 have hlz:x.ws.length ≠ 0:=fun e=>hne (List.eq_nil_of_length_eq_zero e)
 have hsl:slV L x.ws.length 3=.slice (some ⟨L.b,0,some 3⟩) x.ws.length (2 * L.ver + L.r):=if_neg hlz
 obtain ⟨tyb,hblg⟩:=hblg
 obtain ⟨tyL,hLg⟩:=hLg
 generalize hc:(⟨m.next,P,O,L.b,slV L x.ws.length 3,x.ws,x.ln,s.X⟩:Cx)=c
 have cC:c.C=m.next:=by rw [← hc]
 have cP:c.P=P:=by rw [← hc]
 have cO:c.O=O:=by rw [← hc]
 have cwb:c.wb=L.b:=by rw [← hc]
 have cwv:c.wv=slV L x.ws.length 3:=by rw [← hc]
 have cws:c.ws=x.ws:=by rw [← hc]
 have cln:c.ln=x.ln:=by rw [← hc]
 have cX0:c.X0=s.X:=by rw [← hc]
 let vs:List Value:=[slV L x.ws.length 3,I 0,I 0,I 0,I 0]
 have hvs1:vs.all one=true:=by
  show ([slV L x.ws.length 3,I 0,I 0,I 0,I 0]:List Value).all one=true
  rw [hsl]; rfl
 have n1:=h.nr.newK (Xnw h.wt (by decide) |>.trans h.wt.no1) (Xuk h.wt) vs hvs1 (some (2 * Qh5 + 1))
 generalize hm1:m.push (.cells vs 0 0 false (some (2 * Qh5 + 1)))=m1 at n1
 have hn1:m1.next=m.next + 1:=by rw [← hm1]; rfl
 have hg1:∀ b,b < m.next→m1.get b=m.get b:=fun b hb=>by rw [← hm1,Mem.get_push,if_neg (by omega)]
 have F1:Fb B m m1:=by rw [← hm1]; exact Fb.push _ hBm
 generalize hφ1:φ.set [1] ⟨m.next,0,0⟩=φ1 at n1
 have hφe:φ1 [1]=⟨m.next,0,0⟩:=by rw [← hφ1,Phi.set_eq]
 have hφn:∀ k,k ≠ [1]→φ1 k=φ k:=fun k hk=>by rw [← hφ1,Phi.set_ne _ _ hk]
 have hX1:(bX P O s).set [1] (some (.c (vs.map .v)))=toX c (s.at ⟨0,none⟩):=by
  rw [Xwh,cP,cO]
  show _=(bX P O s).set [1] (some (.c (cc c ⟨0,none⟩)))
  unfold cc
  rw [cwv]
  rfl
 rw [hX1] at n1
 have away1:∀ b,Pr b→∀ k,toX c (s.at ⟨0,none⟩) k ≠ none→(φ1 k).b ≠ b:=fun b hb k hk=>by
  obtain ⟨q1,q2⟩:=hPr b hb
  by_cases e:k=[1]
  ·rw [e,hφe]; show m.next ≠ b; omega
  ·rw [hφn k e]
   rw [← hX1,NX.set_ne _ _ e] at hk
   exact q2 k hk
 have hB1:∀ k,toX c (s.at ⟨0,none⟩) k ≠ none→B ≤ (φ1 k).b:=fun k hk=>by
  by_cases e:k=[1]
  ·rw [e,hφe]; exact hBm
  ·rw [hφn k e]
   rw [← hX1,NX.set_ne _ _ e] at hk
   exact h.hB k hk
 have WL1:WL c m1:={
  ne:=by rw [cws]; exact hne
  lt:=by rw [cwb]; have:=(hPr _ hPL).1; omega
  at':=⟨0,2 * L.ver + L.r,X33 x.ln x.ws,0,false,tyL,by rw [cwv,cwb,cws]; exact hsl,by rw [cwb,hg1 _ (hPr _ hPL).1,show (2 * L.ver + L.r) / 2=L.ver by omega]; exact hLg,by rw [cws,Xfv]; omega,fun i w hw=>by
   rw [cws] at hw
   rw [Nat.zero_add,cln]
   exact Xiu x.ln x.ws i w hw⟩
  len:=by rw [cws]; exact hwl
  txt:=by rw [cws]; exact hwt }
 have P1:PS c cap m1 φ1 (s.at ⟨0,none⟩):={
  nr:=n1
  wl:=WL1
  nb:=by rw [cwb]; exact away1 _ hPL
  pC:=by rw [cC]; exact hφe
  pP:=by rw [cP,hφn _ (by decide)]; exact h.pP
  pO:=by rw [cO,hφn _ (by decide)]; exact h.pO
  ok:=⟨Nat.zero_le _,fun y hy=>(by cases hy),h.wt,h.il,by rw [cX0]; exact Ge.refl _⟩ }
 have k1:=W.start P1
 have hgb:∀ {cap2:Nat} {m2:Mem} {φ2:Phi} {s2:PSt} {ts:List Tmp},W c m1 φ1 (s.at ⟨0,none⟩) cap2 m2 φ2 s2 ts→∀ b,Pr b→m2.get b=m.get b∧b < m2.next∧∀ k,toX c s2 k ≠ none→(φ2 k).b ≠ b:=fun {cap2 m2 φ2 s2 ts} w b hb=>by
  have q1:=(hPr b hb).1
  refine ⟨by rw [w.wk.get b (by omega) (away1 b hb),hg1 b q1],by have:=w.wk.next; omega,fun k hk=>?_⟩
  rcases w.wk.nw k hk with q | ⟨k0,e1,e2⟩
  ·omega
  ·rw [← e2]; exact away1 b hb k0 e1
 have hFb:∀ {cap2:Nat} {m2:Mem} {φ2:Phi} {s2:PSt} {ts:List Tmp},W c m1 φ1 (s.at ⟨0,none⟩) cap2 m2 φ2 s2 ts→Fb B m m2:=fun {cap2 m2 φ2 s2 ts} w=>F1.trans {
  next:=w.wk.next
  low:=w.wk.low
  low2:=fun y a b=>w.wk.low2 y a (by omega) fun k hk=>by have:=hB1 k hk; omega
  get:=fun b hb=>w.wk.get b (by omega) fun k hk=>by have:=hB1 k hk; omega
  lo:=w.wk.lo }
 have hBk:∀ {cap2:Nat} {m2:Mem} {φ2:Phi} {s2:PSt} {ts:List Tmp},W c m1 φ1 (s.at ⟨0,none⟩) cap2 m2 φ2 s2 ts→∀ k,toX c s2 k ≠ none→B ≤ (φ2 k).b:=fun {cap2 m2 φ2 s2 ts} w k hk=>by
  rcases w.wk.nw k hk with q | ⟨k0,e1,e2⟩
  ·omega
  ·rw [← e2]; exact hB1 k0 e1
 -- the first word's place
 have ldl:∀ {cap2:Nat} {m2:Mem} {φ2:Phi} {s2:PSt} {ts:List Tmp},W c m1 φ1 (s.at ⟨0,none⟩) cap2 m2 φ2 s2 ts→X7 false 1 (pt bl 0 0) m2=some (I x.ind)∧X7 false 1 (pt bl 1 0) m2=some (slV L x.ws.length 3):=fun {cap2 m2 φ2 s2 ts} w=>by
  have e:=(hgb w bl hbl).1
  exact ⟨X17 (by rw [e]; exact hblg) rfl,X17 (by rw [e]; exact hblg) rfl⟩
 have ldl0:X7 false 1 (pt bl 1 0) m=some (slV L x.ws.length 3):=X17 hblg rfl
 have eb:Xi Qh6 [(0,1),(1,1),(2,2),(4,1)] [(0,slV L x.ws.length 3)]=some (.agg ⟨vs⟩):=by
  show Xi Qh6 [(0,1),(1,1),(2,2),(4,1)] [(0,slV L x.ws.length 3)]=some (.agg ⟨[slV L x.ws.length 3,I 0,I 0,I 0,I 0]⟩)
  rw [hsl]; exact Eq.trans rfl rfl
 have hcv:(Value.cells (.agg ⟨vs⟩)).toList=vs:=rfl
 have hp0:0 < c.ws.length:=by rw [cws]; omega
 obtain ⟨p,p1,p2',_,_,_,p6,_⟩:=WL1.ix hp0
 have p1:Xb 3 (slV L x.ws.length 3) (.int .i64 0)=some (p 0):=by rw [← cwv]; exact p1
 have k2:=k1.push Q2 (some (2 * Q5 + 1))
 obtain ⟨m3,st3,k3⟩:=W.stoE (l1:=[]) (l2:=[]) k2 (o:=0) (n:=2) (y:=posV c.ln (wdC c 0).2) (cs':=[I c.ln,I (wdC c 0).2]) rfl rfl (by show 0 + 2 ≤ 2; omega) rfl
 have k3:W c m1 φ1 (s.at ⟨0,none⟩) cap m3 φ1 (s.at ⟨0,none⟩) [(m1.next,0,[I c.ln,I (wdC c 0).2])]:=k3
 have fin:∀ {cap2:Nat} {m2:Mem} {φ2:Phi} {s2:PSt},W c m1 φ1 (s.at ⟨0,none⟩) cap2 m2 φ2 s2 [(m1.next,0,[I c.ln,I (wdC c 0).2])]→cap2 ≤ cap + x.ws.length + 3→endL c s2=X4s c (s.at ⟨0,none⟩) x.ind→BlkOk s2 →
   ∃ m' cap' φ' C,Q5z (d9 d) k0 (pt c.C 0 0) (pt P 0 0) (pt m1.next 0 0) p2 p3 p32 p31 p30 m2=Q1k (d9 d) k0 (pt C 0 0) p2 p3 p32 p31 p30 (pt P 0 0) m' ∧
   PS ⟨C,P,O,L.b,slV L x.ws.length 3,x.ws,x.ln,s.X⟩ cap' m' φ' (X4s ⟨C,P,O,L.b,slV L x.ws.length 3,x.ws,x.ln,s.X⟩ (s.at ⟨0,none⟩) x.ind)∧cap' ≤ cap + x.ws.length + 3∧BlkOk (X4s ⟨C,P,O,L.b,slV L x.ws.length 3,x.ws,x.ln,s.X⟩ (s.at ⟨0,none⟩) x.ind) ∧
   (∀ k,toX ⟨C,P,O,L.b,slV L x.ws.length 3,x.ws,x.ln,s.X⟩ (X4s ⟨C,P,O,L.b,slV L x.ws.length 3,x.ws,x.ln,s.X⟩ (s.at ⟨0,none⟩) x.ind) k ≠ none→B ≤ (φ' k).b)∧Fb B m m' ∧
   (∀ b,Pr b→m'.get b=m.get b∧b < m'.next∧∀ k,toX ⟨C,P,O,L.b,slV L x.ws.length 3,x.ws,x.ln,s.X⟩ (X4s ⟨C,P,O,L.b,slV L x.ws.length 3,x.ws,x.ln,s.X⟩ (s.at ⟨0,none⟩) x.ind) k ≠ none→(φ' k).b ≠ b):=fun {cap2 m2 φ2 s2} w hc2 he hbk=>by
  obtain ⟨m',e1,w1⟩:=Xtu d k0 p2 p3 p32 p31 p30 w
  rw [he] at w1
  obtain ⟨x1,x2,_⟩:=Xxg c s2
  refine ⟨m',cap2,φ2,m.next,?_,?_⟩
  ·rw [← cC,← cP]; exact e1
  ·rw [hc]
   exact ⟨w1.ps,hc2,by rw [← he]; exact hbk.congr x1 x2,hBk w1,hFb w1,hgb w1⟩
 unfold Qdr
 simp only [Xe,X4,Nat.zero_add,ldl0,eb]
 rw [hcv,X12,hm1]
 unfold Qfg
 obtain ⟨_,l1'⟩:=ldl k1
 simp only [X6,Xe,X4,Nat.zero_add,l1',p1,p2',p6,X12]
 have st3:X8 2 (pt m1.next 0 0) (.agg ⟨[I c.ln,I (wdC c 0).2]⟩) (m1.push (.cells Q2 0 0 false (some (2 * Q5 + 1))))=some m3:=st3
 rw [st3,Xp]
 unfold Qfh
 obtain ⟨l0,_⟩:=ldl k3
 have e0:bin .eql true true .int (I x.ind) (.int .i64 0)=some (.bool (decide (x.ind=0))):=X3q x.ind 0
 have e1:bin .eql true true .int (I x.ind) (.int .i64 1)=some (.bool (decide (x.ind=1))):=X3q x.ind 1
 simp only [Xe,X4,Nat.zero_add,l0,e0]
 unfold Qfi
 rw [← cC]
 have hroot:Root (s.at ⟨0,none⟩).X:=h.wt.root
 by_cases hi0:x.ind=0
 ·rw [decide_eq_true hi0,Xc]
  obtain ⟨m4,st4,k4⟩:=k3.midE 0 .nilFunc (by omega) rfl rfl (s':={ s.at ⟨0,none⟩ with blk:=0 }) (by show [blkV c 0,_,_]=[_,_,_]; unfold blkV; rw [if_pos rfl]) rfl rfl h.il
  have st4:X8 1 (pt P 12 0) .nilFunc m3=some m4:=by rw [← cP]; exact st4
  obtain ⟨v',m5,cap5,φ5,s5,a1,a2,a3,rfl,a4,rfl⟩:=Xyg k4.ps (by rw [cws]; exact hcap) d
  have a1:TA (d + 9) Q75 [pt P 0 0,pt c.C 0 0] m4=some (.tuple ⟨[]⟩,m5):=by rw [← cP]; exact a1
  simp only [Xj,Xe,X4,Nat.zero_add,st4,Xp,a1,X6]
  exact fin (k4.go a2 a3) (by rw [cws] at a4; omega) (by unfold X4s; rw [if_pos hi0]) (Xy5 _ hroot rfl a2)
 ·rw [decide_eq_false hi0,Xa]
  simp only [l0,Xe,X4,Nat.zero_add,e1]
  have lblk:X7 false 1 (pt P 12 0) m3=some (blkV c s.blk):=by rw [← cP]; exact k3.ps.mid 0 _ rfl
  have bad:∀ hnot:¬ (x.ind=1∧s.blk ≠ 0),∃ m' cap' φ' C,Q7g (d9 d) k0 (.bool false) (pt P 0 0) (pt c.C 0 0) (pt m1.next 0 0) p2 p3 p32 p31 p30 m3=Q1k (d9 d) k0 (pt C 0 0) p2 p3 p32 p31 p30 (pt P 0 0) m' ∧
   PS ⟨C,P,O,L.b,slV L x.ws.length 3,x.ws,x.ln,s.X⟩ cap' m' φ' (X4s ⟨C,P,O,L.b,slV L x.ws.length 3,x.ws,x.ln,s.X⟩ (s.at ⟨0,none⟩) x.ind)∧cap' ≤ cap + x.ws.length + 3∧BlkOk (X4s ⟨C,P,O,L.b,slV L x.ws.length 3,x.ws,x.ln,s.X⟩ (s.at ⟨0,none⟩) x.ind) ∧
   (∀ k,toX ⟨C,P,O,L.b,slV L x.ws.length 3,x.ws,x.ln,s.X⟩ (X4s ⟨C,P,O,L.b,slV L x.ws.length 3,x.ws,x.ln,s.X⟩ (s.at ⟨0,none⟩) x.ind) k ≠ none→B ≤ (φ' k).b)∧Fb B m m' ∧
   (∀ b,Pr b→m'.get b=m.get b∧b < m'.next∧∀ k,toX ⟨C,P,O,L.b,slV L x.ws.length 3,x.ws,x.ln,s.X⟩ (X4s ⟨C,P,O,L.b,slV L x.ws.length 3,x.ws,x.ln,s.X⟩ (s.at ⟨0,none⟩) x.ind) k ≠ none→(φ' k).b ≠ b):=fun hnot=>by
   unfold Q7g
   rw [Xa]
   have lf:X7 true 2 (pt m1.next 0 0) m3=some (posV c.ln (wdC c 0).2):=k3.lds (o:=0) (cs:=[I c.ln,I (wdC c 0).2]) (List.mem_cons_self ..) (by show 0 + 2 ≤ 2; omega) rfl
   obtain ⟨m4,a1,a2,a3⟩:=Xed k3.ps (wdC c 0).2 70 (by decide) (d + 8)
   have a1:TA (d + 9) Qs [pt c.C 0 0,posV c.ln (wdC c 0).2,.int .i64 70] m3=some (.tuple ⟨[]⟩,m4):=a1
   simp only [lf,X4,a1,X6]
   exact fin (k3.go a2 a3) (by omega) (by unfold X4s; rw [if_neg hi0,if_neg (show ¬ (x.ind=1∧(s.at ⟨0,none⟩).blk ≠ 0) from hnot)]; rfl) (h.bk.congr rfl rfl)
  by_cases hi1:x.ind=1
  ·rw [decide_eq_true hi1,Xc]
   simp only [Xj,Xe,X4,Nat.zero_add,lblk,Xtb]
   by_cases hb0:s.blk=0
   ·rw [decide_eq_false (fun e=>e hb0)]
    exact bad (fun e=>e.2 hb0)
   ·rw [decide_eq_true hb0]
    unfold Q7g
    rw [Xc]
    obtain ⟨v',m5,cap5,φ5,s5,a1,a2,a3,rfl,a4,rfl⟩:=Xti k3.ps (by rw [cws]; exact hcap) (h.bk.congr rfl rfl) hb0 d
    have a1:X59 (TA (d + 9)) (blkV c s.blk) [pt c.C 0 0] m3=some (.tuple ⟨[]⟩,m5):=a1
    simp only [Xj,Xe,X4,Nat.zero_add,lblk,a1,X6]
    exact fin (k3.go a2 a3) (by rw [cws] at a4; omega) (by unfold X4s; rw [if_neg hi0,if_pos ⟨hi1,hb0⟩]) (Xta _ hroot (h.bk.congr rfl rfl) hb0 cX0 a2)
  ·rw [decide_eq_false hi1,Xa]
   exact bad (fun e=>hi1 e.1)
end Go.Ab.Sh

set_option maxRecDepth 100000
namespace Go.Ab.Sh
open Go Go.Ab Go.Lib
variable {c:Cx} {m0 m:Mem} {φ0 φ:Phi} {s0 s s':PSt} {cap δ:Nat} {ts:List Tmp} {x:Option Rs} {Q:Value→Nat→Phi→PSt→Prop} {v:Value} {cu:Cu}
noncomputable def cxN (x:Ln):Cx:=⟨0,0,0,0,.nilFunc,x.ws,x.ln,fun _=>none⟩
section
variable (c:Cx)
noncomputable def nrm (c:Cx):Cx:=⟨0,0,0,0,.nilFunc,c.ws,c.ln,fun _=>none⟩
theorem Xpo:X2w c=X2w (nrm c):=rfl
theorem n_wd:wdC c=wdC (nrm c):=rfl
theorem Xcb:Xk c=Xk (nrm c):=rfl
theorem n_is:isC c=isC (nrm c):=rfl
theorem Xy7:Xgd c=Xgd (nrm c):=rfl
theorem Xi7:X1i c=X1i (nrm c):=rfl
theorem Xxm:vrfC c=vrfC (nrm c):=rfl
theorem Xj5:oneC c=oneC (nrm c):=rfl
theorem X3a:Xf c=Xf (nrm c):=rfl
theorem Xdk:X1o c=X1o (nrm c):=rfl
theorem Xxk:hopC c=hopC (nrm c):=rfl
theorem Xlm:X3t c=X3t (nrm c):=rfl
theorem Xv8:netC c=netC (nrm c):=rfl
theorem n_ge:geR c=geR (nrm c):=rfl
theorem n_le:leR c=leR (nrm c):=rfl
theorem n_pf:pfR c=pfR (nrm c):=rfl
theorem Xwe:X54 c=X54 (nrm c):=by unfold X54; rw [Xj5,n_pf,n_ge,n_le]
theorem Xxt:Xbc c=Xbc (nrm c):=by unfold Xbc; rw [n_is,Xdk,Xlm,Xv8]
theorem Xuy:X3e c=X3e (nrm c):=by unfold X3e; rw [n_is,X3a]
theorem n_me:meR c=meR (nrm c):=rfl
theorem n_ty:tyR c=tyR (nrm c):=rfl
theorem n_rm:rmR c=rmR (nrm c):=rfl
theorem Xlx:X2r c=X2r (nrm c):=by unfold X2r; rw [Xj5,n_me,n_ty,n_rm]
theorem Xej:badS c=badS (nrm c):=rfl
theorem Xkq:∀ f cu,X20 c f cu=X20 (nrm c) f cu
 | 0,cu=>rfl
 | f + 1,cu=>by
  rw [X45,X45]
  rw [show cmU c cu=cmU (nrm c) cu from rfl,Xkq f,Xpo c,Xcb c]
theorem Xuv (k:Key) (o:Nat):∀ f s,X2n c k o f s=X2n (nrm c) k o f s
 | 0,s=>rfl
 | f + 1,s=>by
  unfold X2n
  dsimp only
  rw [X3a c,Xpo c,Xuv k o f]
theorem Xwp:Xch c=Xch (nrm c):=by unfold Xch; rw [Xxm,Xdk,Xlm,n_is,Xv8,Xxk,X3a]
theorem Xsu:X6x c=X6x (nrm c):=by unfold X6x; rw [Xj5,Xxm,X3a]
theorem n_ip (s:PSt):ipC c s=ipC (nrm c) s:=by
 unfold ipC
 dsimp only
 simp only [Xkq c]
 rw [Xcb c,Xwp c,Xi7 c,Xwe c,Xj5 c,Xy7 c,Xdk c,Xej c]
 rfl
theorem Xzb (s:PSt):topC c s=topC (nrm c) s:=by
 unfold topC
 dsimp only
 rw [n_ip c]
 rw [Xcb c,Xi7 c,Xj5 c,X3a c,Xsu c,Xej c]
theorem Xv0 (s:PSt):Xce c s=Xce (nrm c) s:=by
 unfold Xce
 rw [Xcb c,Xi7 c,Xdk c,Xlm c,Xej c,Xj5 c,X3a c,n_wd c]
 rfl
theorem Xyj (s:PSt):Xiv c s=Xiv (nrm c) s:=by
 unfold Xiv
 rw [Xj5 c,n_is c,X3a c,Xxt c,Xuy c]
theorem Xz8 (s:PSt) (k:Key) (b:Nat):setC c s k b=setC (nrm c) s k b:=by
 unfold setC
 dsimp only
 simp only [Xkq c,Xuv c]
 rw [Xcb c,X3a c,n_is c,Xxk c,Xej c]
 rfl
theorem Xz6 (s:PSt):askC c s=askC (nrm c) s:=by
 unfold askC
 dsimp only
 simp only [Xz8 c]
 rw [Xcb c,Xi7 c,X3a c,Xej c]
theorem Xxa (s:PSt):Xi3 c s=Xi3 (nrm c) s:=by
 unfold Xi3
 rw [Xcb c,Xdk c,Xlx c,Xej c]
theorem n_nb (s:PSt):X40 c s=X40 (nrm c) s:=by
 unfold X40
 rw [Xdk c,Xj5 c,X3a c,Xi7 c]
theorem Xyy (s:PSt):bgpC c s=bgpC (nrm c) s:=by
 unfold bgpC
 dsimp only
 simp only [n_nb c]
 rw [Xcb c,Xdk c,Xlm c,Xv8 c,Xlx c,Xej c]
theorem Xxj (s:PSt) (ind:Nat):X4s c s ind=X4s (nrm c) s ind:=by
 unfold X4s X6q
 simp only [Xzb c,Xv0 c,Xyj c,Xz6 c,Xxa c,Xyy c]
 unfold endL
 rw [Xpo c,n_wd c]
end
noncomputable def X31 (x:Ln) (s:PSt):PSt:=X4s (cxN x) (s.at ⟨0,none⟩) x.ind
noncomputable def X5q:List Ln→PSt→Except (Nat × Nat × Int) PSt
 | [],s=>.ok s
 | x :: l,s=>match (X31 x s).cu.er with | some e=>.error (x.ln,e.1,e.2) | none=>X5q l (X31 x s)
noncomputable def totL:List Ln→Nat
 | []=>0
 | x :: l=>x.ws.length + 3 + totL l
noncomputable abbrev zD:Value:=.agg ⟨Qf⟩
theorem obP (a y z:Value) (m:Mem):(ob (ob (some y) fun v=>ob (ob (some z) fun v=>ob (some [a]) fun l=>some (v :: l)) fun l=>some (v :: l)) fun l=>some (X1g l,m))=some (.tuple ⟨[y,z,a]⟩,m):=Eq.trans rfl rfl
structure Ans (m:Mem) (p2 p3:Nat):Prop where
 l2:p2 < m.next
 l3:p3 < m.next
 ne:p2 ≠ p3
 g2:∃ cs ty,m.get p2=some (.cells cs 0 0 false ty)∧cs.length=12
 g3:∃ cs ty,m.get p3=some (.cells cs 0 0 false ty)∧cs.length=2
theorem Xgu {p2 p3 B:Nat} (h:Ans m p2 p3) (hB2:B ≤ p2) (hB3:B ≤ p3) (dv:List Value) (hd:dv.length=12) (hd1:dv.all one=true) (a b:Nat):∃ m1 m2,X8 12 (pt p2 0 0) (.agg ⟨dv⟩) m=some m1∧X8 2 (pt p3 0 0) (posV a b) m1=some m2∧X7 true 12 (pt p2 0 0) m2=some (.agg ⟨dv⟩)∧X7 true 2 (pt p3 0 0) m2=some (posV a b)∧Fb B m m2 ∧
  (∀ b',b' ≠ p2→m1.get b'=m.get b')∧(∀ b',b' ≠ p2→b' ≠ p3→m2.get b'=m.get b'):=by
 obtain ⟨cs2,ty2,g2,n2⟩:=h.g2
 obtain ⟨cs3,ty3,g3,n3⟩:=h.g3
 obtain ⟨m1,k1,k2⟩:=X1s (o:=0) (n:=12) (v:=.agg ⟨dv⟩) (c':=dv) g2 hd (Nat.zero_le _) (by omega) hd1 (by
  show [] ++ dv ++ cs2.drop (0 + 12)=dv
  rw [List.drop_eq_nil_of_le (by omega)]; simp)
 have g3':m1.get p3=some (.cells cs3 0 0 false ty3):=by rw [k2.get,Mem.get_put,if_neg h.ne]; exact g3
 obtain ⟨m2,q1,q2⟩:=X1s (o:=0) (n:=2) (v:=posV a b) (c':=[I a,I b]) g3' rfl (Nat.zero_le _) (by omega) rfl (by
  show [] ++ [I a,I b] ++ cs3.drop (0 + 2)=_
  rw [List.drop_eq_nil_of_le (by omega)]; rfl)
 refine ⟨m1,m2,k1,q1,?_,?_,(((Fb.refl B m).put _ hB2).meq k2).trans (((Fb.refl B m1).put _ hB3).meq q2),fun b' h2=>by rw [k2.get,Mem.get_put,if_neg (Ne.symm h2)],fun b' h2 h3=>by rw [q2.get,Mem.get_put,if_neg (Ne.symm h3),k2.get,Mem.get_put,if_neg (Ne.symm h2)]⟩
 ·exact Xx (by rw [q2.get,Mem.get_put,if_neg (Ne.symm h.ne),k2.get,Mem.get_put,if_pos rfl]) (by omega) (by rw [List.drop_zero,List.take_of_length_le (by omega)])
 ·exact Xx (by rw [q2.get,Mem.get_put,if_pos rfl]) (by show 0 + 2 ≤ 2; omega) rfl
theorem Xip:∀ (l:List (Ln × Lc)) (i:Nat) (x:Ln × Lc),l[i]?=some x→∃ t,(X6e l).drop (i * 2)=I x.1.ind :: slV x.2 x.1.ws.length 3 :: t
 | [],i,x,h=>by simp at h
 | a :: l,0,x,h=>by cases h; exact ⟨X6e l,rfl⟩
 | a :: l,i + 1,x,h=>by
  obtain ⟨t,ht⟩:=Xip l i x h
  refine ⟨t,?_⟩
  rw [← ht]
  unfold X6e
  rw [List.flatMap_cons,show (i + 1) * 2=i * 2 + 2 by omega]
  rfl
theorem Xf1 (d:Nat) {B P O p2 p3:Nat} (L:Lc) (l:List (Ln × Lc)) (hl:l.length ≤ 4194304) (hw:∀ x ∈ l,x.1.ws.length ≤ 65536∧∀ w ∈ x.1.ws,w.1.length ≤ 65536∧w.2 ≤ 65536) (hB2:B ≤ p2) (hB3:B ≤ p3):∀ (n i f:Nat) (cap:Nat) (m:Mem) (φ:Phi) (s:PSt),i + n=l.length→n < f→B ≤ m.next →
  LI B P O cap m φ s→OutAt 0 m L l→Ans m p2 p3→cap + totL ((l.drop i).map (·.1)) ≤ 8589934592 →
  (∀ b,(b=p2∨b=p3∨(l ≠ []∧b=L.b)∨∃ x ∈ l,b=x.2.b)→∀ k,bX P O s k ≠ none→(φ k).b ≠ b) →
  (∀ e,X5q ((l.drop i).map (·.1)) s=.error e→(e.2.2 ≠ 0∧e.2.2 ≠ 5)∧∃ m',Qg (d9 d) f (I i) (I l.length) (slV L l.length 2) (pt P 0 0) (pt p2 0 0) (pt p3 0 0) m=some (.tuple ⟨[zD,posV e.1 e.2.1,.int .i64 e.2.2]⟩,m')∧Fb B m m') ∧
  (∀ S,X5q ((l.drop i).map (·.1)) s=.ok S→∃ m' cap' φ',Qg (d9 d) f (I i) (I l.length) (slV L l.length 2) (pt P 0 0) (pt p2 0 0) (pt p3 0 0) m=Q8d (d9 d) (pt P 0 0) (pt p2 0 0) (pt p3 0 0) m'∧Fb B m m'∧LI B P O cap' m' φ' S∧Ans m' p2 p3∧cap' ≤ 8589934592∧(∀ k,bX P O S k ≠ none→(φ' k).b ≠ p2∧(φ' k).b ≠ p3))
 | 0,i,f + 1,cap,m,φ,s,e,hf,hBm,hLI,hO,hA,hcap,hpr=>by
  have:i=l.length:=by omega
  subst this
  have e1:Qg (d9 d) (f + 1) (I l.length) (I l.length) (slV L l.length 2) (pt P 0 0) (pt p2 0 0) (pt p3 0 0) m=Q8d (d9 d) (pt P 0 0) (pt p2 0 0) (pt p3 0 0) m:=by
   unfold Qg
   simp only [Qw,X4,Int.lt_irrefl,decide_false]
   unfold Qds
   rw [Xa]
  rw [List.drop_length]
  refine ⟨fun e he=>(by cases he),fun S hS=>?_⟩
  cases hS
  exact ⟨m,cap,φ,e1,.refl _ _,hLI,hA,by omega,fun k hk=>⟨hpr p2 (.inl rfl) k hk,hpr p3 (.inr (.inl rfl)) k hk⟩⟩
 | n + 1,i,f + 1,cap,m,φ,s,e,hf,hBm,hLI,hO,hA,hcap,hpr=>by
  have hi:i < l.length:=by omega
  have hne:l ≠ []:=fun e=>by rw [e] at hi; exact absurd hi (Nat.not_lt_zero _)
  have hlt:decide (((i:Nat):Int) < ((l.length:Nat):Int))=true:=decide_eq_true (by omega)
  have hd:l.drop i=l[i] :: l.drop (i + 1):=List.drop_eq_getElem_cons hi
  have hmem:l[i] ∈ l:=List.getElem_mem hi
  generalize hx:l[i]=x at hd hmem
  have hgx:l[i]?=some x:=by rw [← hx]; exact List.getElem?_eq_getElem hi
  obtain ⟨_,oL,oR,tyo,oG⟩:=hO.out hne
  obtain ⟨⟨x1,_,x3,x4,tyx,x5⟩,_⟩:=hO.ls x hmem
  obtain ⟨hw1,hw2⟩:=hw x hmem
  rw [hd,List.map_cons] at hcap
  have hcap:cap + (x.1.ws.length + 3 + totL ((l.drop (i + 1)).map (·.1))) ≤ 8589934592:=hcap
  -- the line's own copy
  obtain ⟨t,ht⟩:=Xip l i x hgx
  have ix:Xb 2 (slV L l.length 2) (I i)=some (pt L.b (i * 2) L.ver):=X3c L oR _ 2 i .i64 hi
  have lg:X7 true 2 (pt L.b (i * 2) L.ver) m=some (.agg ⟨[I x.1.ind,slV x.2 x.1.ws.length 3]⟩):=Xx oG (by rw [Xf5]; omega) (by rw [ht]; rfl)
  have hwz:x.1.ws.length ≠ 0:=fun e=>x1 (List.eq_nil_of_length_eq_zero e)
  have hsl:slV x.2 x.1.ws.length 3=.slice (some ⟨x.2.b,0,some 3⟩) x.1.ws.length (2 * x.2.ver + x.2.r):=if_neg hwz
  obtain ⟨m1,n1,n2,n3,n4⟩:=X2g [] m (some (2 * Q2w + 1)) Q5x (v:=.agg ⟨[I x.1.ind,slV x.2 x.1.ws.length 3]⟩) (n:=2) rfl rfl (by show ([I x.1.ind,slV x.2 x.1.ws.length 3]:List Value).all one=true; rw [hsl]; rfl)
  have n1:X8 2 (pt m.next 0 0) (.agg ⟨[I x.1.ind,slV x.2 x.1.ws.length 3]⟩) (m.push (.cells Q5x 0 0 false (some (2 * Q2w + 1))))=some m1:=n1
  have hn1:m1.next=m.next + 1:=n3
  have hg1:∀ b,b < m.next→m1.get b=m.get b:=fun b hb=>n2.get b hb (by simp)
  have F1:Fb B m m1:=n2.toFb hBm
  have hLI1:LI B P O cap m1 φ s:={ hLI with nr:=hLI.nr.same (by omega) fun k hk=>hg1 _ (hLI.nr.hi k hk) }
  let Pr:Nat→Prop:=fun b=>b=m.next∨b=p2∨b=p3∨b=L.b∨∃ y ∈ l,b=y.2.b
  have hPr:∀ b,Pr b→b < m1.next∧∀ k,bX P O s k ≠ none→(φ k).b ≠ b:=fun b hb=>by
   rcases hb with rfl | rfl | rfl | rfl | ⟨y,hy,rfl⟩
   ·exact ⟨by omega,fun k hk=>Nat.ne_of_lt (hLI.nr.hi k hk)⟩
   ·exact ⟨by have:=hA.l2; omega,hpr _ (.inl rfl)⟩
   ·exact ⟨by have:=hA.l3; omega,hpr _ (.inr (.inl rfl))⟩
   ·exact ⟨by omega,hpr _ (.inr (.inr (.inl ⟨hne,rfl⟩)))⟩
   ·exact ⟨by have:=(hO.ls y hy).1.2.2.1; omega,hpr _ (.inr (.inr (.inr ⟨y,hy,rfl⟩)))⟩
  obtain ⟨m2,cap2,φ2,C,q1,q2,q3,q4,q5,q6,q7⟩:=Xwj d (Qg (d9 d) f) (pt p2 0 0) (pt p3 0 0) (I i) (I l.length) (slV L l.length 2) hLI1 (by omega) Pr hPr x.1 x.2 x1 x4 ⟨tyx,by rw [hg1 _ x3]; exact x5⟩ (.inr (.inr (.inr (.inr ⟨x,hmem,rfl⟩)))) (.inl rfl) ⟨_,n4⟩ hw1 hw2 (by omega)
  rw [Xxj] at q2 q4 q5 q7
  have hst:X4s (nrm ⟨C,P,O,x.2.b,slV x.2 x.1.ws.length 3,x.1.ws,x.1.ln,s.X⟩) (s.at ⟨0,none⟩) x.1.ind=X31 x.1 s:=rfl
  rw [hst] at q2 q4 q5 q7
  have e0:Qg (d9 d) (f + 1) (I i) (I l.length) (slV L l.length 2) (pt P 0 0) (pt p2 0 0) (pt p3 0 0) m=Q1k (d9 d) (Qg (d9 d) f) (pt C 0 0) (pt p2 0 0) (pt p3 0 0) (I i) (I l.length) (slV L l.length 2) (pt P 0 0) m2:=by
   refine Eq.trans ?_ q1
   unfold Qg
   simp only [Qw,X4,hlt]
   unfold Qds
   rw [Xc]
   unfold Qfj
   simp only [ix,lg,X4,X12,n1,Xp,X6]
  have F2:Fb B m m2:=F1.trans q6
  have hA2:Ans m2 p2 p3:={
   l2:=(q7 p2 (.inr (.inl rfl))).2.1
   l3:=(q7 p3 (.inr (.inr (.inl rfl)))).2.1
   ne:=hA.ne
   g2:=by rw [(q7 p2 (.inr (.inl rfl))).1,hg1 _ hA.l2]; exact hA.g2
   g3:=by rw [(q7 p3 (.inr (.inr (.inl rfl)))).1,hg1 _ hA.l3]; exact hA.g3 }
  have le:X7 false 1 (pt C 4 0) m2=some (I (X31 x.1 s).cu.e):=q2.ld rfl
  rw [hd,List.map_cons,e0]
  unfold X5q
  cases her:(X31 x.1 s).cu.er with
  | some er =>
   refine ⟨fun e he=>?_,fun S hS=>(by cases hS)⟩
   cases he
   have hee:(X31 x.1 s).cu.e=er.2:=by unfold Cu.e; rw [her]
   have hne0:er.2 ≠ 0:=q2.ee er her
   have hli:(X31 x.1 s).cu.line ⟨C,P,O,x.2.b,slV x.2 x.1.ws.length 3,x.1.ws,x.1.ln,s.X⟩=x.1.ln:=by unfold Cu.line; rw [her]
   have hco:(X31 x.1 s).cu.col=er.1:=by unfold Cu.col; rw [her]
   have lpos:∀ m3,m3.get C=m2.get C→X7 true 2 (pt C 2 0) m3=some (posV x.1.ln er.1)∧X7 false 1 (pt C 4 0) m3=some (.int .i64 er.2):=fun m3 hm=>by
    obtain ⟨tyc,hcg⟩:=q2.nr.at' [1] _ (Xko _ _)
    rw [q2.pC] at hcg
    have hcg:m2.get C=some (.cells (cells φ2 [1] (cc ⟨C,P,O,x.2.b,slV x.2 x.1.ws.length 3,x.1.ws,x.1.ln,s.X⟩ (X31 x.1 s).cu)) 0 0 false tyc):=hcg
    have hcl:cells φ2 [1] (cc ⟨C,P,O,x.2.b,slV x.2 x.1.ws.length 3,x.1.ws,x.1.ln,s.X⟩ (X31 x.1 s).cu)=[slV x.2 x.1.ws.length 3,I (X31 x.1 s).cu.pl,I x.1.ln,I er.1,I er.2]:=by
     unfold cc
     rw [hli,hco,hee]
     exact X8b φ2 [1] [slV x.2 x.1.ws.length 3,I (X31 x.1 s).cu.pl,I x.1.ln,I er.1,I er.2]
    rw [hcl] at hcg
    exact ⟨Xx (by rw [hm]; exact hcg) (by show 2 + 2 ≤ 5; omega) rfl,X17 (by rw [hm]; exact hcg) rfl⟩
   have hC2:C ≠ p2:=fun e=>(q7 p2 (.inr (.inl rfl))).2.2 [1] (by rw [Xko]; simp) (by rw [q2.pC]; exact e)
   have hC3:C ≠ p3:=fun e=>(q7 p3 (.inr (.inr (.inl rfl)))).2.2 [1] (by rw [Xko]; simp) (by rw [q2.pC]; exact e)
   obtain ⟨m3,m4,a1,a2,a3,a4,a5,a6,a7⟩:=Xgu hA2 hB2 hB3 Qf rfl rfl x.1.ln er.1
   obtain ⟨b1,b2⟩:=lpos m2 rfl
   obtain ⟨b3,b4⟩:=lpos m3 (a6 C hC2)
   obtain ⟨b5,b6⟩:=lpos m4 (a7 C hC2 hC3)
   have en:bin .neq true true .int (.int .i64 er.2) (.int .i64 0)=some (.bool true):=by rw [Q4z,decide_eq_true hne0]
   have eb:Xi Qf [(0,1),(1,1),(2,1),(3,1),(4,1),(5,1),(6,1),(7,1),(8,1),(9,1),(10,1),(11,1)] []=some zD:=Eq.trans rfl rfl
   have ag:∀ mm,again (pur (some (posV x.1.ln er.1)) mm) (posV x.1.ln er.1)=true:=fun mm=>by
    show vsame 8 (posV x.1.ln er.1) (posV x.1.ln er.1)=true
    simp [vsame,vsame.vsames]
   refine ⟨⟨hne0,q2.e5 er her⟩,m4,?_,F2.trans a5⟩
   unfold Q1k
   simp only [Xj,Xe,X4,Nat.zero_add,b2,en,Xc,eb,b1,a1,Xp,b3,b4,ag,X4x,Bool.and_true,Bool.true_and,X2c,a2,b6,a3,a4]
   exact obP _ _ _ _
  | none =>
   have hee:(X31 x.1 s).cu.e=0:=by unfold Cu.e; rw [her]
   rw [hee] at le
   have en:bin .neq true true .int (I 0) (.int .i64 0)=some (.bool false):=by rw [Q4z]; rfl
   have ei:bin .add true true .int (I i) (.int .i64 1)=some (I (i + 1:Nat)):=by
    rw [Q3p]
    have:((i:Nat):Int) + 1=((i + 1:Nat):Int):=by omega
    rw [this,wrap64 _ (by omega)]
   have e15:Q1k (d9 d) (Qg (d9 d) f) (pt C 0 0) (pt p2 0 0) (pt p3 0 0) (I i) (I l.length) (slV L l.length 2) (pt P 0 0) m2=Qg (d9 d) f (I (i + 1:Nat)) (I l.length) (slV L l.length 2) (pt P 0 0) (pt p2 0 0) (pt p3 0 0) m2:=by
    unfold Q1k
    have le:X7 false 1 (pt C 4 0) m2=some (I 0):=le
    simp only [Xj,Xe,X4,Nat.zero_add,le,en,Xa,ei]
   rw [e15]
   have hw3:=q2.wt
   have hdrop:(toX ⟨C,P,O,x.2.b,slV x.2 x.1.ws.length 3,x.1.ws,x.1.ln,s.X⟩ (X31 x.1 s)).set [1] none=bX P O (X31 x.1 s):=by
    rw [Xwh]
    funext k
    unfold NX.set
    by_cases hk:k=[1]
    ·rw [if_pos hk,hk,Xnw hw3 (by decide)]; exact hw3.no1.symm
    ·rw [if_neg hk,if_neg hk]
   have hsub:∀ k,bX P O (X31 x.1 s) k ≠ none→toX ⟨C,P,O,x.2.b,slV x.2 x.1.ws.length 3,x.1.ws,x.1.ln,s.X⟩ (X31 x.1 s) k ≠ none:=fun k hk=>by
    rw [← hdrop] at hk
    by_cases e:k=[1]
    ·rw [e,NX.set_eq] at hk; exact absurd rfl hk
    ·rwa [NX.set_ne _ _ e] at hk
   have hLI2:LI B P O cap2 m2 φ2 (X31 x.1 s):={
    nr:=by
     rw [← hdrop]
     exact q2.nr.dropK (fun l' j n' sz hl' hj=>by
      rw [Xko] at hl'
      cases hl'
      unfold cc at hj
      have:∀ (us:List Value),(us.map Cl.v)[j]? ≠ some (.s n' sz):=fun us h=>by
       rw [List.getElem?_map] at h
       cases hq:us[j]? with
       | none=>rw [hq] at h; cases h
       | some y=>rw [hq] at h; cases h
      exact this [slV x.2 x.1.ws.length 3,I (X31 x.1 s).cu.pl,I ((X31 x.1 s).cu.line ⟨C,P,O,x.2.b,slV x.2 x.1.ws.length 3,x.1.ws,x.1.ln,s.X⟩),I (X31 x.1 s).cu.col,I (X31 x.1 s).cu.e] hj) (fun l'=>by
      rw [Xwh,NX.set_ne _ _ (by decide)]
      exact Xuk hw3 l')
    pP:=q2.pP
    pO:=q2.pO
    wt:=hw3
    il:=q2.ok.il
    hB:=fun k hk=>q5 k (hsub k hk)
    bk:=q4 }
   have hO2:OutAt 0 m2 L l:={
    out:=fun q=>by
     obtain ⟨a,b,c',ty,g⟩:=hO.out q
     have:=q7 L.b (.inr (.inr (.inr (.inl rfl))))
     exact ⟨a,this.2.1,c',ty,by rw [this.1,hg1 _ b]; exact g⟩
    ls:=fun y hy=>by
     obtain ⟨⟨a1,a2,a3,a4,ty,a5⟩,a6⟩:=hO.ls y hy
     have:=q7 y.2.b (.inr (.inr (.inr (.inr ⟨y,hy,rfl⟩))))
     exact ⟨⟨a1,a2,this.2.1,a4,ty,by rw [this.1,hg1 _ a3]; exact a5⟩,a6⟩ }
   have ih:=Xf1 d L l hl hw hB2 hB3 n (i + 1) f cap2 m2 φ2 (X31 x.1 s) (by omega) (by omega) (by have:=q6.next; omega) hLI2 hO2 hA2 (by omega) (fun b hb k hk=>by
    have hb':Pr b:=by
     rcases hb with rfl | rfl | ⟨_,rfl⟩ | h
     ·exact .inr (.inl rfl)
     ·exact .inr (.inr (.inl rfl))
     ·exact .inr (.inr (.inr (.inl rfl)))
     ·exact .inr (.inr (.inr (.inr h)))
    exact (q7 b hb').2.2 k (hsub k hk))
   obtain ⟨i1,i2⟩:=ih
   refine ⟨fun e he=>?_,fun S hS=>?_⟩
   ·obtain ⟨hn,m',a1,a2⟩:=i1 e he
    exact ⟨hn,m',a1,F2.trans a2⟩
   ·obtain ⟨m',cap',φ',a1,a2,a3⟩:=i2 S hS
    exact ⟨m',cap',φ',a1,F2.trans a2,a3⟩
end Go.Ab.Sh

set_option maxRecDepth 100000
namespace Go.Ab.Sh
open Go Go.Ab Go.Lib
variable {c:Cx} {m0 m:Mem} {φ0 φ:Phi} {s0 s s':PSt} {cap δ:Nat} {ts:List Tmp} {x:Option Rs} {Q:Value→Nat→Phi→PSt→Prop} {v:Value} {cu:Cu}
noncomputable abbrev srtF:Value:=.func (.func Qap) #[] #[]
noncomputable def X5e:Prop:=∀ (L:Lc) (n d:Nat) (m:Mem) (cs:List Value) (ty:Option Nat),(n ≠ 0→L.r < 2∧L.b < m.next∧m.get L.b=some (.cells cs L.ver 0 false ty))→cs.length=n * 15→n ≤ 8589934592→(∀ i,i < n→∃ z,cs[i * 15]?=some (.int .i64 z))→cs.all one=true →
 ∃ m',TA (d + 9) Q2i [slV L n 15,srtF] m=some (.tuple ⟨[]⟩,m')∧m.next ≤ m'.next∧m'.low ≤ m.low∧(m'=m∨n ≠ 0∧(∀ y,y ≤ m.low→y ≤ L.b→y ≤ m'.low)∧m'.low ≤ L.b∧∀ b,b < m.next→b ≠ L.b→m'.get b=m.get b)
theorem Xhv (hS:X5e) (d:Nat) {B P O p2 p3:Nat} {S:PSt} {m0:Mem} (h:LI B P O cap m0 φ S) (hcap:cap ≤ 8589934592) (hBm:B ≤ m0.next) (hN:0 < nOf S.X [0] 9):∀ (n i f:Nat) (m:Mem),i + n=nOf S.X [0] 9→n < f→Fb B m0 m→(∀ b,b < m0.next→(∀ j,j < i→S.X [j * 3 + 1,9,0] ≠ none→b ≠ (φ [j * 3 + 1,9,0]).b)→m.get b=m0.get b) →
  ∃ m',Q5i (d9 d) f (I i) (I (nOf S.X [0] 9)) (slV (φ [9,0]) (nOf S.X [0] 9) 3) (pt P 0 0) (pt p2 0 0) (pt p3 0 0) m=Qb1 (d9 d) (pt P 0 0) (pt p2 0 0) (pt p3 0 0) m'∧Fb B m0 m'∧(∀ b,b < m0.next→(∀ j,S.X [j * 3 + 1,9,0] ≠ none→b ≠ (φ [j * 3 + 1,9,0]).b)→m'.get b=m0.get b)
 | 0,i,f + 1,m,e,hf,hF,hg=>by
  have:i=nOf S.X [0] 9:=by omega
  subst this
  refine ⟨m,?_,hF,fun b hb hb2=>hg b hb fun j _ hj=>hb2 j hj⟩
  unfold Q5i
  simp only [Qw,X4,Int.lt_irrefl,decide_false,Xa]
 | n + 1,i,f + 1,m,e,hf,hF,hg=>by
  have hi:i < nOf S.X [0] 9:=by omega
  have hlt:decide (((i:Nat):Int) < ((nOf S.X [0] 9:Nat):Int))=true:=decide_eq_true (by omega)
  -- the policies' rows
  obtain ⟨lr,hr0,hr18⟩:=h.wt.root
  have hX:∀ k:Key,k ≠ [0]→bX P O S k=S.X k:=fun k hk=>Xnw h.wt hk
  have root:∃ l',bX P O S [0]=some (.c l')∧l'[9]?=some (.s (nOf S.X [0] 9) 3):=by
   refine ⟨_,by unfold bX; rw [X1c hr0,NX.set_eq],?_⟩
   have g:=get_put (l:=lr) (z:=[if S.blk=0 then .nilFunc else .func (.func S.blk) ⟨[pt P 0 0]⟩ ⟨[]⟩,sv S.inn,mapV O].map Cl.v) (o:=12) (by show 12 + 3 ≤ lr.length; omega) 9
   refine Eq.trans g ?_
   rw [if_neg (by omega)]
   obtain ⟨d9',q1,q2⟩:=h.wt.get hr0 (r:=0) rfl (o:=9) (by omega)
   have q2:okc (some (.l 12)) d9':=q2
   cases d9' with
   | v y=>exact False.elim q2
   | s a b =>
    have q2:b=3:=q2
    subst q2
    have:nOf S.X [0] 9=a:=by unfold nOf; rw [X8v hr0,q1]; rfl
    rw [this]; exact q1
  obtain ⟨l',a1,a2⟩:=root
  have ow9:=h.nr.ow [0] l' 9 _ 3 a1 a2
  have o3:=ow9.2.2
  rw [if_neg (by omega),hX _ (by decide)] at o3
  obtain ⟨l9,b1,b2⟩:=o3
  have hr9:=h.nr.r2 [9,0] (by rw [hX _ (by decide),b1]; simp)
  obtain ⟨ty9,g9⟩:=h.nr.at' [9,0] (.c l9) (by rw [hX _ (by decide)]; exact b1)
  have hb9:=h.nr.hi [9,0] (by rw [hX _ (by decide),b1]; simp)
  have ne9:∀ j,S.X [j * 3 + 1,9,0] ≠ none→(φ [9,0]).b ≠ (φ [j * 3 + 1,9,0]).b:=fun j hj e=>by
   have:=h.nr.inj [9,0] [j * 3 + 1,9,0] (by rw [hX _ (by decide),b1]; simp) (by rw [hX _ (fun e=>by injection e with e1 e2; cases e2)]; exact hj) e
   injection this with q1 q2; cases q2
  have g9m:m.get (φ [9,0]).b=some (.cells (cells φ [9,0] l9) (φ [9,0]).ver 0 false ty9):=by rw [hg _ hb9 (fun j _ hj=>ne9 j hj)]; exact g9
  have hend:=row_end (sz:=3) hi
  have hk9:kt [9,0]=some 12:=rfl
  -- the row's cells
  obtain ⟨c0,r01,r02⟩:=h.wt.get b1 hk9 (o:=i * 3 + 0) (by omega)
  obtain ⟨c1,r11,r12⟩:=h.wt.get b1 hk9 (o:=i * 3 + 1) (by omega)
  obtain ⟨c2,r21,r22⟩:=h.wt.get b1 hk9 (o:=i * 3 + 2) (by omega)
  rw [fd_row (r:=12) (sz:=3) rfl i 0 (by omega)] at r02
  rw [fd_row (r:=12) (sz:=3) rfl i 1 (by omega)] at r12
  rw [fd_row (r:=12) (sz:=3) rfl i 2 (by omega)] at r22
  have r02:okc (some .s) c0:=r02
  have r12:okc (some (.l 13)) c1:=r12
  have r22:okc (some .b) c2:=r22
  cases c0 with
  | s _ _=>exact False.elim r02
  | v y0 =>
  cases c1 with
  | v _=>exact False.elim r12
  | s M z =>
  have r12:z=15:=r12
  subst r12
  cases c2 with
  | s _ _=>exact False.elim r22
  | v y2 =>
  obtain ⟨t0,rfl,_⟩:=r02
  obtain ⟨t2,rfl⟩:=r22
  have row:((cells φ [9,0] l9).drop (i * 3)).take 3=[sv t0,slV (φ [i * 3 + 1,9,0]) M 15,.bool t2]:=by
   apply List.ext_getElem?
   intro q
   rw [List.getElem?_take]
   have:q=0∨q=1∨q=2∨3 ≤ q:=by omega
   rcases this with rfl | rfl | rfl | hq
   ·rw [if_pos (by omega),List.getElem?_drop,Xv,r01]; rfl
   ·rw [if_pos (by omega),List.getElem?_drop,Xv,r11]; rfl
   ·rw [if_pos (by omega),List.getElem?_drop,Xv,r21]; rfl
   ·rw [if_neg (by omega),List.getElem?_eq_none (by simp; omega)]
  have ix:Xb 3 (slV (φ [9,0]) (nOf S.X [0] 9) 3) (I i)=some (pt (φ [9,0]).b (i * 3) (φ [9,0]).ver):=X3c _ hr9 _ 3 i .i64 hi
  have lg:X7 true 3 (pt (φ [9,0]).b (i * 3) (φ [9,0]).ver) m=some (.agg ⟨[sv t0,slV (φ [i * 3 + 1,9,0]) M 15,.bool t2]⟩):=Xx g9m (by rw [X18]; omega) row
  have hsv1:(slV (φ [i * 3 + 1,9,0]) M 15).cells=#[slV (φ [i * 3 + 1,9,0]) M 15]:=by unfold slV; split <;> rfl
  obtain ⟨m1,n1,n2,n3,n4⟩:=X2g [] m (some (2 * Q64 + 1)) Qag (v:=.agg ⟨[sv t0,slV (φ [i * 3 + 1,9,0]) M 15,.bool t2]⟩) (n:=3) rfl rfl (by show ([sv t0,slV (φ [i * 3 + 1,9,0]) M 15,.bool t2]:List Value).all one=true; show (one (sv t0) && (one (slV (φ [i * 3 + 1,9,0]) M 15) && (one (.bool t2) && true)))=true; rw [X6k]; rfl)
  have n1:X8 3 (pt m.next 0 0) (.agg ⟨[sv t0,slV (φ [i * 3 + 1,9,0]) M 15,.bool t2]⟩) (m.push (.cells Qag 0 0 false (some (2 * Q64 + 1))))=some m1:=n1
  have hn1:m1.next=m.next + 1:=n3
  have hgm1:∀ b,b < m.next→m1.get b=m.get b:=fun b hb=>n2.get b hb (by simp)
  have hFn:=hF.next
  have F1:Fb B m m1:=n2.toFb (by omega)
  have l1:X7 false 1 (pt m.next 1 0) m1=some (slV (φ [i * 3 + 1,9,0]) M 15):=X17 n4 rfl
  -- the clauses
  have owc:=h.nr.ow [9,0] l9 (i * 3 + 1) M 15 (by rw [hX _ (by decide)]; exact b1) r11
  have hMc:M ≤ cap:=owc.1
  have oc:=owc.2.2
  rw [hX _ (fun e=>by injection e with e1 e2; cases e2)] at oc
  have hcl:∃ cs ty,(M ≠ 0→S.X [i * 3 + 1,9,0] ≠ none∧(φ [i * 3 + 1,9,0]).r < 2∧(φ [i * 3 + 1,9,0]).b < m0.next∧B ≤ (φ [i * 3 + 1,9,0]).b∧m1.get (φ [i * 3 + 1,9,0]).b=some (.cells cs (φ [i * 3 + 1,9,0]).ver 0 false ty))∧cs.length=M * 15∧(∀ j,j < M→∃ z,cs[j * 15]?=some (.int .i64 z))∧cs.all one=true:=by
   by_cases hz:M=0
   ·subst hz
    exact ⟨[],none,fun q=>absurd rfl q,by simp,fun j hj=>absurd hj (Nat.not_lt_zero _),rfl⟩
   ·rw [if_neg hz] at oc
    obtain ⟨lc,q1,q2⟩:=oc
    have hXk:bX P O S [i * 3 + 1,9,0]=some (.c lc):=by rw [hX _ (fun e=>by injection e with e1 e2; cases e2)]; exact q1
    have hne0:bX P O S [i * 3 + 1,9,0] ≠ none:=by rw [hXk]; simp
    obtain ⟨tyc,gc⟩:=h.nr.at' _ _ hXk
    have hbc:=h.nr.hi _ hne0
    have hkc:kt [i * 3 + 1,9,0]=some 13:=X2z hk9 (by rw [fd_row (r:=12) (sz:=3) rfl i 1 (by omega)]; rfl)
    refine ⟨cells φ [i * 3 + 1,9,0] lc,tyc,fun _=>⟨by rw [q1]; simp,h.nr.r2 _ hne0,hbc,h.hB _ hne0,?_⟩,by rw [X18]; exact q2,fun j hj=>?_,cells_ok (h.nr.ok _ _ hXk)⟩
    ·rw [hgm1 _ (by omega),hg _ hbc (fun j hj hjn e=>by
      have:=h.nr.inj [i * 3 + 1,9,0] [j * 3 + 1,9,0] hne0 (by rw [hX _ (fun e=>by injection e with e1 e2; cases e2)]; exact hjn) e
      injection this with e1 e2
      omega)]
     exact gc
    ·have hend2:=row_end (sz:=15) hj
     obtain ⟨dd,d1,d2⟩:=h.wt.get q1 hkc (o:=j * 15 + 0) (by omega)
     rw [fd_row (r:=13) (sz:=15) rfl j 0 (by omega)] at d2
     have d2:okc (some (.i .i64)) dd:=d2
     cases dd with
     | s _ _=>exact False.elim d2
     | v y =>
      obtain ⟨z,rfl⟩:=d2
      rw [Nat.add_zero] at d1
      exact ⟨z,by rw [Xv,d1]; rfl⟩
  obtain ⟨cs,tyc,hc1,hc2,hc3,hc4⟩:=hcl
  obtain ⟨m2,s1,s2,s3,s4⟩:=hS (φ [i * 3 + 1,9,0]) M d m1 cs tyc (fun q=>⟨(hc1 q).2.1,by have:=(hc1 q).2.2.1; omega,(hc1 q).2.2.2.2⟩) hc2 (by omega) hc3 hc4
  have F2:Fb B m1 m2:=by
   rcases s4 with rfl | ⟨hz,u1,u2,u3⟩
   ·exact .refl _ _
   ·have hbB:=(hc1 hz).2.2.2.1
    exact {
     next:=s2
     low:=s3
     low2:=fun y a b=>u1 y a (by omega)
     get:=fun b hb=>u3 b (by omega) (by omega)
     lo:=fun b hb=>by
      by_cases e:b=(φ [i * 3 + 1,9,0]).b
      ·exact .inl (by omega)
      ·exact .inr (u3 b hb e) }
  have hg2:∀ b,b < m0.next→(∀ j,j < i + 1→S.X [j * 3 + 1,9,0] ≠ none→b ≠ (φ [j * 3 + 1,9,0]).b)→m2.get b=m0.get b:=fun b hb hb2=>by
   have e1:m1.get b=m0.get b:=by rw [hgm1 b (by omega)]; exact hg b hb fun j hj hjn=>hb2 j (by omega) hjn
   rcases s4 with rfl | ⟨hz,u1,u2,u3⟩
   ·exact e1
   ·rw [u3 b (by omega) (hb2 i (by omega) (hc1 hz).1)]; exact e1
  obtain ⟨m',v1,v2,v3⟩:=Xhv hS d h hcap hBm hN n (i + 1) f m2 (by omega) (by omega) (hF.trans (F1.trans F2)) hg2
  refine ⟨m',?_,v2,v3⟩
  have ei:bin .add true true .int (I i) (.int .i64 1)=some (I (i + 1:Nat)):=by
   have hcapN:nOf S.X [0] 9 ≤ cap:=ow9.1
   rw [Q3p]
   have:((i:Nat):Int) + 1=((i + 1:Nat):Int):=by omega
   rw [this,wrap64 _ (by omega)]
  unfold Q5i
  simp only [Qw,X4,hlt,Xc,ix,lg,X12,X6,n1,Xp,Xe,Nat.zero_add,l1,s1,ei]
  exact v1
noncomputable def ansN (o:Except (Nat × Nat × Int) PSt):Nat × Nat × Int:=match o with
 | .error e=>e
 | .ok S=>if sOf S.X [0] 0=[] then (0,0,5) else (0,0,0)
theorem Xqo (hS:X5e) (d:Nat) {B P O p2 p3:Nat} {S:PSt} (h:LI B P O cap m φ S) (hcap:cap ≤ 8589934592) (hBm:B ≤ m.next) (hA:Ans m p2 p3) (hB2:B ≤ p2) (hB3:B ≤ p3) (hne:∀ k,bX P O S k ≠ none→(φ k).b ≠ p2∧(φ k).b ≠ p3) :
  ∃ (dv:List Value) (m':Mem),Q8d (d9 d) (pt P 0 0) (pt p2 0 0) (pt p3 0 0) m=some (.tuple ⟨[.agg ⟨dv⟩,posV 0 0,.int .i64 (ansN (.ok S)).2.2]⟩,m')∧Fb B m m'∧dv.length=12∧dv.all one=true:=by
 obtain ⟨lr,hr0,hr18⟩:=h.wt.root
 have hX:∀ k:Key,k ≠ [0]→bX P O S k=S.X k:=fun k hk=>Xnw h.wt hk
 have hX0:bX P O S [0]=some (.c (lr.take 12 ++ [if S.blk=0 then Value.nilFunc else .func (.func S.blk) ⟨[pt P 0 0]⟩ ⟨[]⟩,sv S.inn,mapV O].map Cl.v ++ lr.drop 15)):=by unfold bX; rw [X1c hr0,NX.set_eq]; rfl
 generalize hL0:lr.take 12 ++ [if S.blk=0 then Value.nilFunc else .func (.func S.blk) ⟨[pt P 0 0]⟩ ⟨[]⟩,sv S.inn,mapV O].map Cl.v ++ lr.drop 15=L0 at hX0
 have hL0len:L0.length=18:=by rw [← hL0]; simp; omega
 have hL0at:∀ o,o < 12→L0[o]?=lr[o]?:=fun o ho=>by
  rw [← hL0]
  have g:=get_put (l:=lr) (z:=[if S.blk=0 then Value.nilFunc else .func (.func S.blk) ⟨[pt P 0 0]⟩ ⟨[]⟩,sv S.inn,mapV O].map Cl.v) (o:=12) (by show 12 + 3 ≤ lr.length; omega) o
  refine Eq.trans g ?_
  rw [if_neg (by omega)]
 obtain ⟨ty0,g0⟩:=h.nr.at' [0] (.c L0) hX0
 rw [h.pP] at g0
 have g0:m.get P=some (.cells (cells φ [0] L0) 0 0 false ty0):=g0
 obtain ⟨c0,q1,q2⟩:=h.wt.get hr0 (r:=0) rfl (o:=0) (by omega)
 have q2:okc (some .s) c0:=q2
 cases c0 with
 | s _ _=>exact False.elim q2
 | v y0 =>
 obtain ⟨t0,rfl,_⟩:=q2
 have hs0:sOf S.X [0] 0=t0:=by unfold sOf vOf; rw [X8v hr0,q1]; rfl
 have ld0:X7 false 1 (pt P 0 0) m=some (sv t0):=X17 g0 (by rw [Xv,hL0at 0 (by omega),q1]; rfl)
 have e0:bin .eql true true .str (sv t0) (.string ⟨#[]⟩)=some (.bool (decide (t0=[]))):=Qo _ _ _ []
 have eb:Xi Qf [(0,1),(1,1),(2,1),(3,1),(4,1),(5,1),(6,1),(7,1),(8,1),(9,1),(10,1),(11,1)] []=some zD:=Eq.trans rfl rfl
 have ep:Xi Q2 [(0,1),(1,1)] []=some (posV 0 0):=Eq.trans rfl rfl
 unfold Q8d ansN
 simp only [Xj,Xe,X4,Nat.zero_add,ld0,e0]
 rw [hs0]
 by_cases ht:t0=[]
 ·rw [decide_eq_true ht,Xc,if_pos ht]
  obtain ⟨m1,m2,a1,a2,a3,a4,a5,_⟩:=Xgu hA hB2 hB3 Qf rfl rfl 0 0
  refine ⟨Qf,m2,?_,a5,rfl,rfl⟩
  have a2:X8 2 (pt p3 0 0) (posV 0 0) m1=some m2:=a2
  simp only [eb,ep,X4,a1,Xp,a2,a3,a4]
  exact obP _ _ _ _
 ·rw [decide_eq_false ht,Xa,if_neg ht]
  -- the policies
  have a9:L0[9]?=some (.s (nOf S.X [0] 9) 3):=by
   rw [hL0at 9 (by omega)]
   obtain ⟨d9',q1,q2⟩:=h.wt.get hr0 (r:=0) rfl (o:=9) (by omega)
   have q2:okc (some (.l 12)) d9':=q2
   cases d9' with
   | v y=>exact False.elim q2
   | s a b =>
    have q2:b=3:=q2
    subst q2
    have:nOf S.X [0] 9=a:=by unfold nOf; rw [X8v hr0,q1]; rfl
    rw [this]; exact q1
  have ld9:X7 false 1 (pt P 9 0) m=some (slV (φ [9,0]) (nOf S.X [0] 9) 3):=X17 g0 (by rw [Xv,a9]; rfl)
  have loop:∃ m',Q5i (d9 d) 18446744073709551616 (I (0:Nat)) (I (nOf S.X [0] 9)) (slV (φ [9,0]) (nOf S.X [0] 9) 3) (pt P 0 0) (pt p2 0 0) (pt p3 0 0) m=Qb1 (d9 d) (pt P 0 0) (pt p2 0 0) (pt p3 0 0) m'∧Fb B m m'∧(∀ b,b < m.next→(∀ j,S.X [j * 3 + 1,9,0] ≠ none→b ≠ (φ [j * 3 + 1,9,0]).b)→m'.get b=m.get b):=by
   have hN:=(h.nr.ow [0] L0 9 _ 3 hX0 a9).1
   by_cases hz:nOf S.X [0] 9=0
   ·refine ⟨m,?_,.refl _ _,fun b _ _=>rfl⟩
    rw [hz]
    unfold Q5i
    simp only [Qw,X4,Int.lt_irrefl,decide_false,Xa]
   ·exact Xhv hS d h hcap hBm (by omega) (nOf S.X [0] 9) 0 18446744073709551616 m (by omega) (by omega) (.refl _ _) (fun b _ _=>rfl)
  obtain ⟨m1,e1,F1,hg⟩:=loop
  have hPne:∀ j,S.X [j * 3 + 1,9,0] ≠ none→P ≠ (φ [j * 3 + 1,9,0]).b:=fun j hj e=>by
   have:=h.nr.inj [0] [j * 3 + 1,9,0] (by rw [hX0]; simp) (by rw [hX _ (fun e=>by injection e with e1 e2; cases e2)]; exact hj) (by rw [h.pP]; exact e)
   injection this with e1 e2
   cases e2
  have hPlt:P < m.next:=by
   have:=h.nr.hi [0] (by rw [hX0]; simp)
   rw [h.pP] at this
   exact this
  have pne:∀ j,S.X [j * 3 + 1,9,0] ≠ none→(φ [j * 3 + 1,9,0]).b ≠ p2∧(φ [j * 3 + 1,9,0]).b ≠ p3:=fun j hj=>hne _ (by rw [hX _ (fun e=>by injection e with e1 e2; cases e2)]; exact hj)
  have gP:m1.get P=some (.cells (cells φ [0] L0) 0 0 false ty0):=by rw [hg P hPlt hPne]; exact g0
  have hA1:Ans m1 p2 p3:={
   l2:=by have:=hA.l2; have:=F1.next; omega
   l3:=by have:=hA.l3; have:=F1.next; omega
   ne:=hA.ne
   g2:=by rw [hg p2 hA.l2 (fun j hj=>Ne.symm (pne j hj).1)]; exact hA.g2
   g3:=by rw [hg p3 hA.l3 (fun j hj=>Ne.symm (pne j hj).2)]; exact hA.g3 }
  have hdl:((cells φ [0] L0).take 12).length=12:=by rw [List.length_take,X18,hL0len]; rfl
  have ldd:X7 true 12 (pt P 0 0) m1=some (.agg ⟨(cells φ [0] L0).take 12⟩):=Xx gP (by rw [X18,hL0len]; omega) (by rw [List.drop_zero])
  have hone:((cells φ [0] L0).take 12).all one=true:=by
   have:=cells_ok (φ:=φ) (k:=[0]) (h.nr.ok _ _ hX0)
   rw [List.all_eq_true] at this ⊢
   exact fun y hy=>this y (List.mem_of_mem_take hy)
  obtain ⟨m2,m3,b1,b2,b3,b4,b5,_⟩:=Xgu hA1 hB2 hB3 ((cells φ [0] L0).take 12) hdl hone 0 0
  refine ⟨(cells φ [0] L0).take 12,m3,?_,F1.trans b5,hdl,hone⟩
  unfold Qg3
  simp only [Xj,Xe,X4,Nat.zero_add,ld9,X2x]
  unfold Qg4
  refine Eq.trans e1 ?_
  unfold Qb1
  have b2:X8 2 (pt p3 0 0) (posV 0 0) m2=some m3:=b2
  simp only [Xj,Xe,X4,Nat.zero_add,ldd,ep,b1,Xp,b2,b3,b4]
  exact obP _ _ _ _
end Go.Ab.Sh

set_option maxRecDepth 100000
namespace Go.Ab.Sh
open Go Go.Ab Go.Lib
variable {c:Cx} {m0 m:Mem} {φ0 φ:Phi} {s0 s s':PSt} {cap δ:Nat} {ts:List Tmp} {x:Option Rs} {Q:Value→Nat→Phi→PSt→Prop} {v:Value} {cu:Cu}
noncomputable def par0:List Cl:=[.v (sv []),.v (.int .u8 1),.s 0 1,.s 0 11,.s 0 2,.s 0 3,.s 0 7,.s 0 2,.s 0 2,.s 0 3,.s 0 3,.s 0 6,.v .nilFunc,.v (sv []),.v .nilFunc,.v (.bool false),.v (.bool false),.v (I 0)]
noncomputable def X00:NX:=fun k=>if k=[0] then some (.c par0) else if k=[2] then some (setO []) else none
noncomputable def st0:PSt:=⟨⟨0,none⟩,X00,0,[]⟩
theorem Xva {k:Key} (h0:k ≠ [0]) (h2:k ≠ [2]):X00 k=none:=by unfold X00; rw [if_neg h0,if_neg h2]
theorem wt00:WT X00 where
 root:=⟨par0,rfl,rfl⟩
 set:=⟨[],rfl⟩
 no1:=rfl
 ty:=fun k l h=>by
  by_cases h0:k=[0]
  ·subst h0
   cases h
   refine ⟨0,rfl,fun o d hd=>?_⟩
   have ho:o < 18:=(List.getElem?_eq_some_iff.mp hd).1
   have:=fd_row (r:=0) (sz:=18) rfl 0 o ho
   rw [Nat.zero_mul,Nat.zero_add] at this
   rw [this]
   have ok:okL (rowT 0) par0:=by repeat' (first | exact trivial | exact ok_i _ _ | exact ok_b _ | exact ok_s (Nat.zero_le _) | exact ok_l _ _ | apply And.intro)
   exact X2k ok o d hd
  ·by_cases h2:k=[2]
   ·subst h2; cases h
   ·rw [Xva h0 h2] at h; cases h
set_option maxHeartbeats 4000000 in
theorem li00 {B P O:Nat} (hP:P < m.next) (hO:O < m.next) (hPO:P ≠ O) (hBP:B ≤ P) (hBO:B ≤ O) {ty:Option Nat} (gO:m.get O=some (.map [] 0)) (gP:m.get P=some (.cells [sv [],.int .u8 1,.slice none 0 0,.slice none 0 0,.slice none 0 0,.slice none 0 0,.slice none 0 0,.slice none 0 0,.slice none 0 0,.slice none 0 0,.slice none 0 0,.slice none 0 0,.nilFunc,sv [],mapV O,.bool false,.bool false,I 0] 0 0 false ty)) :
  LI B P O 0 m (fun k=>if k=[0] then ⟨P,0,0⟩ else ⟨O,0,0⟩) st0:=by
 have e0:bX P O st0 [0]=some (.c [.v (sv []),.v (.int .u8 1),.s 0 1,.s 0 11,.s 0 2,.s 0 3,.s 0 7,.s 0 2,.s 0 2,.s 0 3,.s 0 3,.s 0 6,.v .nilFunc,.v (sv []),.v (mapV O),.v (.bool false),.v (.bool false),.v (I 0)]):=by
  unfold bX
  rw [X1c (show st0.X [0]=some (.c par0) from rfl),NX.set_eq]
  rfl
 have en:∀ k,k ≠ [0]→bX P O st0 k=X00 k:=fun k hk=>Xnw (s:=st0) wt00 hk
 have e2:bX P O st0 [2]=some (setO []):=en [2] (by decide)
 have dom:∀ k,bX P O st0 k ≠ none→k=[0]∨k=[2]:=fun k hk=>by
  by_cases h0:k=[0]
  ·exact .inl h0
  ·by_cases h2:k=[2]
   ·exact .inr h2
   ·rw [en k h0,Xva h0 h2] at hk
    exact absurd rfl hk
 have f0:(fun k=>if k=[0] then ⟨P,0,0⟩ else ⟨O,0,0⟩:Phi) [0]=⟨P,0,0⟩:=rfl
 have f2:(fun k=>if k=[0] then ⟨P,0,0⟩ else ⟨O,0,0⟩:Phi) [2]=⟨O,0,0⟩:=rfl
 exact {
  nr:={
   inj:=fun a b ha hb e=>by
    rcases dom a ha with rfl | rfl <;> rcases dom b hb with rfl | rfl
    ·rfl
    ·exact absurd e hPO
    ·exact absurd e (Ne.symm hPO)
    ·rfl
   hi:=fun a ha=>by
    rcases dom a ha with rfl | rfl
    ·exact hP
    ·exact hO
   r2:=fun a ha=>by
    rcases dom a ha with rfl | rfl
    ·show 0 < 2; omega
    ·show 0 < 2; omega
   at':=fun a ob ha=>by
    rcases dom a (by rw [ha]; simp) with rfl | rfl
    ·rw [e0] at ha
     cases ha
     exact ⟨ty,gP⟩
    ·rw [e2] at ha
     cases ha
     exact gO
   ok:=fun a l ha=>by
    rcases dom a (by rw [ha]; simp) with rfl | rfl
    ·rw [e0] at ha
     cases ha
     rfl
    ·rw [e2] at ha
     cases ha
   ow:=fun a l i n sz ha hi=>by
    rcases dom a (by rw [ha]; simp) with rfl | rfl
    ·rw [e0] at ha
     cases ha
     have key:n=0∧0 < sz:=by
      have:i < 18:=(List.getElem?_eq_some_iff.mp hi).1
      have hc:i=0∨i=1∨i=2∨i=3∨i=4∨i=5∨i=6∨i=7∨i=8∨i=9∨i=10∨i=11∨i=12∨i=13∨i=14∨i=15∨i=16∨i=17:=by omega
      rcases hc with rfl | rfl | rfl | rfl | rfl | rfl | rfl | rfl | rfl | rfl | rfl | rfl | rfl | rfl | rfl | rfl | rfl | rfl <;> cases hi <;> exact ⟨rfl,by decide⟩
     obtain ⟨rfl,hz⟩:=key
     refine ⟨Nat.le_refl _,hz,?_⟩
     rw [if_pos rfl,en _ (fun e=>by injection e with e1 e2; cases e2),Xva (fun e=>by injection e with e1 e2; cases e2) (fun e=>by injection e with e1 e2; cases e2)]
    ·rw [e2] at ha
     cases ha
   par:=fun i j a ha=>by
    rcases dom _ ha with e | e <;> (injection e with e1 e2; cases e2) }
  pP:=f0
  pO:=f2
  wt:=wt00
  il:=Nat.zero_le _
  hB:=fun k hk=>by
   rcases dom k hk with rfl | rfl
   ·exact hBP
   ·exact hBO
  bk:=.none rfl }
theorem Xmw (n:Nat):∀ (f:Nat) (rest:Str),rest.length ≤ n→(X4i n f rest).length ≤ rest.length∧∀ w ∈ X4i n f rest,w.1.length ≤ n∧w.2 ≤ n
 | 0,rest,h=>⟨Nat.zero_le _,fun w hw=>by cases hw⟩
 | f + 1,rest,h=>by
  unfold X4i
  by_cases hr:rest=[]
  ·rw [if_pos hr]; exact ⟨Nat.zero_le _,fun w hw=>by cases hw⟩
  ·rw [if_neg hr]
   have hcl:=Xgf 32 rest
   have hlt:=Xq8 hr
   have htl:=Xap (cutO 32 rest).2.1
   obtain ⟨i1,i2⟩:=Xmw n f (trimS (cutO 32 rest).2.1) (by omega)
   refine ⟨by rw [List.length_cons]; omega,fun w hw=>?_⟩
   rcases List.mem_cons.mp hw with rfl | e
   ·exact ⟨by show (cutO 32 rest).1.length ≤ n; omega,by show n - rest.length + 1 ≤ n; have:=List.length_pos_iff.mpr hr; omega⟩
   ·exact i2 w e
theorem Xlp (N:Nat):∀ (rows:List Str) (i:Nat),(∀ r ∈ rows,r.length ≤ N)→(X1p rows i).length ≤ rows.length∧totL (X1p rows i) ≤ rows.length * (N + 3)∧∀ x ∈ X1p rows i,x.ws.length ≤ N∧∀ w ∈ x.ws,w.1.length ≤ N∧w.2 ≤ N
 | [],i,h=>⟨Nat.le_refl _,Nat.zero_le _,fun x hx=>by cases hx⟩
 | r :: l,i,h=>by
  have hr:=h r (List.mem_cons_self ..)
  obtain ⟨i1,i2,i3⟩:=Xlp N l (i + 1) fun r' hr'=>h r' (List.mem_cons_of_mem _ hr')
  have e:(r :: l).length * (N + 3)=l.length * (N + 3) + (N + 3):=by rw [List.length_cons,Nat.add_mul,Nat.one_mul]
  unfold X1p
  cases hp:rowP r with
  | none=>exact ⟨by rw [List.length_cons]; show (X1p l (i + 1)).length ≤ _; omega,by rw [e]; show totL (X1p l (i + 1)) ≤ _; omega,i3⟩
  | some y =>
   have hy:y.2.length ≤ N∧∀ w ∈ y.2,w.1.length ≤ N∧w.2 ≤ N:=by
    unfold rowP at hp
    dsimp only at hp
    split at hp
    ·cases hp
    ·cases hp
     have ht:=Xap r
     obtain ⟨a,b⟩:=Xmw r.length (r.length + 1) (trimS r) ht
     exact ⟨by show (X4i r.length (r.length + 1) (trimS r)).length ≤ N; omega,fun w hw=>by
      have:=b w hw
      omega⟩
   refine ⟨by show ((⟨y.1,i + 1,y.2⟩:Ln) :: X1p l (i + 1)).length ≤ _; simp only [List.length_cons]; omega,?_,fun x hx=>?_⟩
   ·rw [e]
    show y.2.length + 3 + totL (X1p l (i + 1)) ≤ _
    omega
   ·rcases List.mem_cons.mp hx with rfl | e
    ·exact hy
    ·exact i3 x e
noncomputable def Xm (s:Str):Nat × Nat × Int:=if (Xl s).2.2 ≠ 0 then ((Xl s).1,(Xl s).2.1,((Xl s).2.2:Int)) else ansN (X5q (linesT s) st0)
noncomputable def Xpc (s:Str):Prop:=(Xl s).2.2=0→∀ e,X5q (linesT s) st0=.error e→e.2.2 ≠ 0∧e.2.2 ≠ 5
theorem c_Parse (hS:X5e) (s:Str) (d:Nat) (m:Mem):∃ (dv:List Value) (m':Mem),TA (d + 10) Q65 [sv s] m=some (.tuple ⟨[.agg ⟨dv⟩,posV (Xm s).1 (Xm s).2.1,.int .i64 (Xm s).2.2]⟩,m')∧Fr [] m m'∧Xpc s∧dv.length=12∧dv.all one=true:=by
 rw [Xjf]
 generalize hm0:withLow m m.next=m0
 have hn0:m0.next=m.next:=by rw [← hm0]; rfl
 generalize hm1:m0.push (.cells Qf 0 0 false (some (2 * Q2j + 1)))=m1
 have hn1:m1.next=m0.next + 1:=by rw [← hm1]; rfl
 have F1:Fb m.next m0 m1:=by rw [← hm1]; exact Fb.push _ (by omega)
 have g1:m1.get m0.next=some (.cells Qf 0 0 false (some (2 * Q2j + 1))):=by rw [← hm1,Mem.get_push,if_pos rfl]
 generalize hm2:m1.push (.cells Q2 0 0 false (some (2 * Q5 + 1)))=m2
 have hn2:m2.next=m1.next + 1:=by rw [← hm2]; rfl
 have F2:Fb m.next m0 m2:=by rw [← hm2]; exact F1.trans (Fb.push _ (by omega))
 have g21:m2.get m0.next=some (.cells Qf 0 0 false (some (2 * Q2j + 1))):=by rw [← hm2,Mem.get_push,if_neg (by omega)]; exact g1
 have g22:m2.get m1.next=some (.cells Q2 0 0 false (some (2 * Q5 + 1))):=by rw [← hm2,Mem.get_push,if_pos rfl]
 have A2:Ans m2 m0.next m1.next:=⟨by omega,by omega,by omega,⟨_,_,g21,rfl⟩,⟨_,_,g22,rfl⟩⟩
 have hx:∃ (dv:List Value) (m':Mem),Q8n (d9 d) (sv s) m0=some (.tuple ⟨[.agg ⟨dv⟩,posV (Xm s).1 (Xm s).2.1,.int .i64 (Xm s).2.2]⟩,m')∧Fb m.next m0 m'∧Xpc s∧dv.length=12∧dv.all one=true:=by
  unfold Q8n
  simp only [X12,X6,hm1,hm2]
  unfold Qg5 Xm
  by_cases hk:(Xl s).2.2=0
  ·-- the lines are read
   rw [if_neg (fun h=>h hk)]
   obtain ⟨m3,L,l,a1,a2,a3,a4⟩:=c_Lines s hk (d + 5) m2
   have a1:TA (d + 9) Q9j [sv s] m2=some (.tuple ⟨[slV L l.length 2,posV 0 0,I 0]⟩,m3):=a1
   have hn3:=a4.next
   have F3:Fb m.next m0 m3:=F2.trans (a4.toFb (by omega))
   obtain ⟨m4,n1,n2,n3,n4⟩:=X2g [] m3 (some (2 * Q5 + 1)) Q2 (v:=posV 0 0) (n:=2) rfl rfl rfl
   have n1:X8 2 (pt m3.next 0 0) (posV 0 0) (m3.push (.cells Q2 0 0 false (some (2 * Q5 + 1))))=some m4:=n1
   have hn4:m4.next=m3.next + 1:=n3
   have F4:Fb m.next m0 m4:=F3.trans (n2.toFb (by omega))
   have en:bin .neq true true .int (I 0) (.int .i64 0)=some (.bool false):=by rw [Q4z]; rfl
   simp only [a1,X6,ex0,ex1,ex2,X4,X12,n1,Xp]
   unfold Qec
   simp only [en,X4,Xa]
   unfold Qg6
   have eb1:Xi Qf [(0,1),(1,1),(2,1),(3,1),(4,1),(5,1),(6,1),(7,1),(8,1),(9,1),(10,1),(11,1)] [(1,.int .u8 1)]=some (.agg ⟨[sv [],.int .u8 1,.slice none 0 0,.slice none 0 0,.slice none 0 0,.slice none 0 0,.slice none 0 0,.slice none 0 0,.slice none 0 0,.slice none 0 0,.slice none 0 0,.slice none 0 0]⟩):=Eq.trans rfl rfl
   have emk:X7n m4=(mapV m4.next,m4.push (.map [] 0)):=Eq.trans rfl rfl
   generalize hm5:m4.push (.map [] 0)=m5 at emk
   have hn5:m5.next=m4.next + 1:=by rw [← hm5]; rfl
   have g5:m5.get m4.next=some (.map [] 0):=by rw [← hm5,Mem.get_push,if_pos rfl]
   have F5:Fb m.next m4 m5:=by rw [← hm5]; exact Fb.push _ (by omega)
   have eb2:Xi Qjm [(0,12),(12,1),(13,1),(14,1),(15,1),(16,1),(17,1)] [(0,.agg ⟨[sv [],.int .u8 1,.slice none 0 0,.slice none 0 0,.slice none 0 0,.slice none 0 0,.slice none 0 0,.slice none 0 0,.slice none 0 0,.slice none 0 0,.slice none 0 0,.slice none 0 0]⟩),(3,mapV m4.next)]=some (.agg ⟨[sv [],.int .u8 1,.slice none 0 0,.slice none 0 0,.slice none 0 0,.slice none 0 0,.slice none 0 0,.slice none 0 0,.slice none 0 0,.slice none 0 0,.slice none 0 0,.slice none 0 0,.nilFunc,sv [],mapV m4.next,.bool false,.bool false,I 0]⟩):=Eq.trans rfl rfl
   have ec:(Value.cells (.agg ⟨[sv [],.int .u8 1,.slice none 0 0,.slice none 0 0,.slice none 0 0,.slice none 0 0,.slice none 0 0,.slice none 0 0,.slice none 0 0,.slice none 0 0,.slice none 0 0,.slice none 0 0,.nilFunc,sv [],mapV m4.next,.bool false,.bool false,I 0]⟩)).toList=[sv [],.int .u8 1,.slice none 0 0,.slice none 0 0,.slice none 0 0,.slice none 0 0,.slice none 0 0,.slice none 0 0,.slice none 0 0,.slice none 0 0,.slice none 0 0,.slice none 0 0,.nilFunc,sv [],mapV m4.next,.bool false,.bool false,I 0]:=rfl
   simp only [eb1,X4,emk,X6,eb2]
   rw [ec,X12]
   try rw [X6]
   generalize hm6:m5.push (.cells [sv [],.int .u8 1,.slice none 0 0,.slice none 0 0,.slice none 0 0,.slice none 0 0,.slice none 0 0,.slice none 0 0,.slice none 0 0,.slice none 0 0,.slice none 0 0,.slice none 0 0,.nilFunc,sv [],mapV m4.next,.bool false,.bool false,I 0] 0 0 false (some (2 * Qh7 + 1)))=m6
   have hn6:m6.next=m5.next + 1:=by rw [← hm6]; rfl
   have g6P:m6.get m5.next=some (.cells [sv [],.int .u8 1,.slice none 0 0,.slice none 0 0,.slice none 0 0,.slice none 0 0,.slice none 0 0,.slice none 0 0,.slice none 0 0,.slice none 0 0,.slice none 0 0,.slice none 0 0,.nilFunc,sv [],mapV m4.next,.bool false,.bool false,I 0] 0 0 false (some (2 * Qh7 + 1))):=by rw [← hm6,Mem.get_push,if_pos rfl]
   have g6O:m6.get m4.next=some (.map [] 0):=by rw [← hm6,Mem.get_push,if_neg (by omega)]; exact g5
   have F6:Fb m.next m0 m6:=by
    rw [← hm6]
    exact (F4.trans F5).trans (Fb.push _ (by omega))
   have k6:∀ b,b < m3.next→m6.get b=m3.get b:=fun b hb=>by
    rw [← hm6,Mem.get_push,if_neg (by omega),← hm5,Mem.get_push,if_neg (by omega)]
    exact n2.get b hb (by simp)
   have LI0:LI m.next m5.next m4.next 0 m6 (fun k=>if k=[0] then ⟨m5.next,0,0⟩ else ⟨m4.next,0,0⟩) st0:=li00 (by omega) (by omega) (by omega) (by omega) (by omega) g6O g6P
   have hs65:s.length ≤ 65536:=by
    rcases Nat.lt_or_ge 65536 s.length with q | q
    ·unfold Xl at hk
     rw [if_pos q] at hk
     cases hk
    ·exact q
   have hsl:(split 10 s).length ≤ s.length + 1:=by
    rw [X46 10 s.length s (Nat.le_refl _)]
    have:=List.count_le_length (a:=(10:UInt8)) (l:=s)
    omega
   obtain ⟨o1,o2,o3⟩:=Xlp 65536 (split 10 s) 0 (fun r hr=>by have:=X7c 10 s r hr; omega)
   have hll:l.length=(linesT s).length:=by rw [← a3,List.length_map]
   have o1:(linesT s).length ≤ (split 10 s).length:=o1
   have o2:totL (linesT s) ≤ (split 10 s).length * 65539:=o2
   have hprod:(split 10 s).length * 65539 ≤ 65537 * 65539:=Nat.mul_le_mul_right _ (by omega)
   have O6:OutAt 0 m6 L l:={
    out:=fun q=>by
     obtain ⟨a,b,c',ty,g⟩:=a2.out q
     exact ⟨Nat.zero_le _,by omega,c',ty,by rw [k6 _ b]; exact g⟩
    ls:=fun y hy=>by
     obtain ⟨⟨b1,b2,b3,b4,ty,b5⟩,b6⟩:=a2.ls y hy
     exact ⟨⟨b1,Nat.zero_le _,by omega,b4,ty,by rw [k6 _ b3]; exact b5⟩,b6⟩ }
   have A6:Ans m6 m0.next m1.next:={
    l2:=by omega
    l3:=by omega
    ne:=by omega
    g2:=by rw [k6 _ (by omega),a4.get _ (by omega) (by simp)]; exact A2.g2
    g3:=by rw [k6 _ (by omega),a4.get _ (by omega) (by simp)]; exact A2.g3 }
   have dom:∀ k,bX m5.next m4.next st0 k ≠ none→((fun k=>if k=[0] then ⟨m5.next,0,0⟩ else ⟨m4.next,0,0⟩:Phi) k).b=m5.next∨((fun k=>if k=[0] then ⟨m5.next,0,0⟩ else ⟨m4.next,0,0⟩:Phi) k).b=m4.next:=fun k hk=>by
    show (if k=[0] then (⟨m5.next,0,0⟩:Lc) else ⟨m4.next,0,0⟩).b=_∨(if k=[0] then (⟨m5.next,0,0⟩:Lc) else ⟨m4.next,0,0⟩).b=_
    split
    ·exact .inl rfl
    ·exact .inr rfl
   have pr:∀ b,(b=m0.next∨b=m1.next∨(l ≠ []∧b=L.b)∨∃ x ∈ l,b=x.2.b)→∀ k,bX m5.next m4.next st0 k ≠ none→((fun k=>if k=[0] then ⟨m5.next,0,0⟩ else ⟨m4.next,0,0⟩:Phi) k).b ≠ b:=fun b hb k hk=>by
    have hb3:b < m3.next:=by
     rcases hb with rfl | rfl | ⟨q,rfl⟩ | ⟨y,hy,rfl⟩
     ·omega
     ·omega
     ·exact (a2.out q).2.1
     ·exact (a2.ls y hy).1.2.2.1
    rcases dom k hk with e | e <;> rw [e] <;> omega
   obtain ⟨p1,p2⟩:=Xf1 d (B:=m.next) (P:=m5.next) (O:=m4.next) (p2:=m0.next) (p3:=m1.next) L l (by omega) (fun y hy=>o3 y.1 (by
    show y.1 ∈ linesT s
    rw [← a3]; exact List.mem_map_of_mem hy)) (by omega) (by omega) l.length 0 18446744073709551616 0 m6 _ st0 (by omega) (by omega) (by omega) LI0 O6 A6 (by rw [List.drop_zero,a3]; omega) pr
   rw [List.drop_zero,a3] at p1 p2
   unfold Qg7
   simp only [X2x,X4]
   unfold Qg8
   cases hf:X5q (linesT s) st0 with
   | error e =>
    obtain ⟨_,m',b1,b2⟩:=p1 e hf
    exact ⟨Qf,m',b1,F6.trans b2,fun _ e' he'=>(p1 e' he').1,rfl,rfl⟩
   | ok S =>
    obtain ⟨m',cap',φ',b1,b2,b3,b4,b5,b6⟩:=p2 S hf
    obtain ⟨dv,m'',c1,c2,c3⟩:=Xqo hS d b3 b5 (by have:=b2.next; omega) b4 (by omega) (by omega) b6
    have hz:(ansN (.ok S)).1=0∧(ansN (.ok S)).2.1=0:=by
     unfold ansN
     dsimp only
     split <;> exact ⟨rfl,rfl⟩
    refine ⟨dv,m'',?_,F6.trans (b2.trans c2),fun _ e' he'=>(p1 e' he').1,c3⟩
    rw [hz.1,hz.2]
    exact Eq.trans b1 c1
  ·rw [if_pos hk]
   have a1:TA (d + 9) Q9j [sv s] m2=_:=c_Lines_bad s hk (d + 5) m2
   obtain ⟨m3,n1,n2,n3,n4⟩:=X2g [] m2 (some (2 * Q5 + 1)) Q2 (v:=posV (Xl s).1 (Xl s).2.1) (n:=2) rfl rfl rfl
   have n1:X8 2 (pt m2.next 0 0) (posV (Xl s).1 (Xl s).2.1) (m2.push (.cells Q2 0 0 false (some (2 * Q5 + 1))))=some m3:=n1
   have hn3:m3.next=m2.next + 1:=n3
   have F3:Fb m.next m0 m3:=F2.trans (n2.toFb (by omega))
   have A3:Ans m3 m0.next m1.next:={
    l2:=by omega
    l3:=by omega
    ne:=by omega
    g2:=by rw [n2.get _ (by omega) (by simp)]; exact A2.g2
    g3:=by rw [n2.get _ (by omega) (by simp)]; exact A2.g3 }
   obtain ⟨m4,m5,b1,b2,b3,b4,b5,b6,b7⟩:=Xgu (B:=m.next) A3 (by omega) (by omega) Qf rfl rfl (Xl s).1 (Xl s).2.1
   have en:bin .neq true true .int (I (Xl s).2.2) (.int .i64 0)=some (.bool true):=by rw [Q4z,decide_eq_true (by omega)]
   have eb:Xi Qf [(0,1),(1,1),(2,1),(3,1),(4,1),(5,1),(6,1),(7,1),(8,1),(9,1),(10,1),(11,1)] []=some zD:=Eq.trans rfl rfl
   have l3:X7 true 2 (pt m2.next 0 0) m3=some (posV (Xl s).1 (Xl s).2.1):=Xx n4 (by show 2 ≤ 2; omega) rfl
   have l4:X7 true 2 (pt m2.next 0 0) m4=some (posV (Xl s).1 (Xl s).2.1):=Xx (by rw [b6 _ (by omega)]; exact n4) (by show 2 ≤ 2; omega) rfl
   have ag:∀ mm,again (pur (some (posV (Xl s).1 (Xl s).2.1)) mm) (posV (Xl s).1 (Xl s).2.1)=true:=fun mm=>by
    show vsame 8 (posV (Xl s).1 (Xl s).2.1) (posV (Xl s).1 (Xl s).2.1)=true
    simp [vsame,vsame.vsames]
   refine ⟨Qf,m5,?_,F3.trans b5,fun q=>absurd q hk,rfl,rfl⟩
   simp only [a1,X6,ex0,ex1,ex2,X4,X12,n1,Xp]
   unfold Qec
   simp only [en,X4,Xc,eb,l3,b1,Xp,l4,ag,Bool.and_true,X2c,b2,b3,b4]
   exact obP _ _ _ _
 obtain ⟨dv,m',e1,e2,e3⟩:=hx
 rw [← hm0] at e1 e2
 obtain ⟨m'',q1,q2,_⟩:=Xwi e1 (Fb.toFr e2)
 exact ⟨dv,m'',by rw [hm0] at q1; exact q1,q2,e3⟩
end Go.Ab.Sh

set_option maxRecDepth 100000
namespace Go.Ab.Sh
open Go Go.Ab Go.Lib
noncomputable def ends (ws:List Str):Str:=ws.flatMap fun w=>w ++ [10]
theorem X42 (w:Str) (ws:List Str):ends (w :: ws)=w ++ 10 :: ends ws:=by unfold ends; rw [List.flatMap_cons,List.append_assoc]; rfl
theorem X5z (a b:List Str):ends (a ++ b)=ends a ++ ends b:=by unfold ends; exact List.flatMap_append
theorem Xfo:∀ (ws:List Str) (y:Str),(∀ w ∈ ws,(10:UInt8) ∉ w)→split 10 (ends ws ++ y)=ws ++ split 10 y
 | [],y,_=>rfl
 | w :: ws,y,h=>by
  rw [X42,List.append_assoc,List.cons_append,Xre _ (h w (List.mem_cons_self ..)),Xfo ws y fun w' hw=>h w' (List.mem_cons_of_mem _ hw)]
  rfl
theorem Xbi:∀ (ws:List Str),(∀ w ∈ ws,(10:UInt8) ∉ w)→(ends ws).count 10=ws.length
 | [],_=>rfl
 | w :: ws,h=>by
  rw [X42,List.count_append,List.count_cons_self,Xbi ws fun w' hw=>h w' (List.mem_cons_of_mem _ hw),List.count_eq_zero_of_not_mem (h w (List.mem_cons_self ..)),List.length_cons]
  omega
theorem Xb7:∀ s:Str,ends (split 10 s)=s ++ [10]
 | []=>rfl
 | a :: l=>by
  have ih:=Xb7 l
  rw [X56]
  by_cases h:a=10
  ·rw [if_pos h,X42,ih,h]; rfl
  ·rw [if_neg h]
   cases hs:split 10 l with
   | nil=>exact absurd hs (X67 10 l)
   | cons w ws =>
    rw [hs,X42] at ih
    show ends ((a :: w) :: ws)=_
    rw [X42,List.cons_append,ih]; rfl
theorem Xtq (s:Str):∀ w ∈ split 10 s,(10:UInt8) ∉ w:=(Xff 10 s.length s (Nat.le_refl _) _ rfl).2
noncomputable def adv:Str→Nat→Nat→Nat × Nat
 | [],l,k=>(l,k)
 | c :: r,l,k=>if c.toNat=10 then adv r (l + 1) 1 else adv r l (k + 1)
theorem X9w (c:UInt8) (r:Str) (l k:Nat):chk (c :: r) l k=if 4096 < l then (l,k,3) else if c.toNat=10 then chk r (l + 1) 1 else if c.toNat < 32∨126 < c.toNat then (l,k,70) else chk r l (k + 1):=rfl
theorem Xmr (c:UInt8) (r:Str) (l k:Nat):adv (c :: r) l k=if c.toNat=10 then adv r (l + 1) 1 else adv r l (k + 1):=rfl
theorem toNat10 {c:UInt8}:c.toNat=10 ↔ c=10:=⟨fun h=>UInt8.toNat_inj.mp h,fun h=>by rw [h]; rfl⟩
theorem X4t:∀ (u v:Str) (l k:Nat),chk (u ++ v) l k=if (chk u l k).2.2=0 then chk v (adv u l k).1 (adv u l k).2 else chk u l k
 | [],v,l,k=>rfl
 | c :: r,v,l,k=>by
  rw [List.cons_append,X9w,X9w,Xmr]
  by_cases h1:4096 < l
  ·simp only [if_pos h1]; rfl
  ·by_cases h2:c.toNat=10
   ·simp only [if_neg h1,if_pos h2]; exact X4t r v (l + 1) 1
   ·by_cases h3:c.toNat < 32∨126 < c.toNat
    ·simp only [if_neg h1,if_neg h2,if_pos h3]; rfl
    ·simp only [if_neg h1,if_neg h2,if_neg h3]; exact X4t r v l (k + 1)
theorem X7i:∀ (u:Str) (l k:Nat),(adv u l k).1=l + u.count 10
 | [],l,k=>rfl
 | c :: r,l,k=>by
  rw [Xmr]
  by_cases h:c.toNat=10
  ·rw [if_pos h,X7i r (l + 1) 1,toNat10.mp h,List.count_cons_self]; omega
  ·rw [if_neg h,X7i r l (k + 1),List.count_cons_of_ne (fun e=>h (toNat10.mpr e))]
theorem Xbt:∀ (s:Str) (l k:Nat),(chk s l k).2.2 ≠ 0→l ≤ (chk s l k).1∧(chk s l k).1 ≤ l + s.count 10∧((chk s l k).2.2=3∨(chk s l k).2.2=70)
 | [],l,k,h=>absurd rfl h
 | c :: r,l,k,h=>by
  rw [X9w] at h ⊢
  by_cases h1:4096 < l
  ·rw [if_pos h1]; exact ⟨Nat.le_refl _,Nat.le_add_right _ _,.inl rfl⟩
  ·rw [if_neg h1] at h ⊢
   by_cases h2:c.toNat=10
   ·rw [if_pos h2] at h ⊢
    obtain ⟨a,b,e⟩:=Xbt r (l + 1) 1 h
    rw [toNat10.mp h2,List.count_cons_self]
    exact ⟨by omega,by omega,e⟩
   ·rw [if_neg h2] at h ⊢
    by_cases h3:c.toNat < 32∨126 < c.toNat
    ·rw [if_pos h3]; exact ⟨Nat.le_refl _,Nat.le_add_right _ _,.inr rfl⟩
    ·rw [if_neg h3] at h ⊢
     obtain ⟨a,b,e⟩:=Xbt r l (k + 1) h
     rw [List.count_cons_of_ne (fun e=>h2 (toNat10.mpr e))]
     exact ⟨a,b,e⟩
theorem Xv1 {u v:Str} {l k:Nat} (h:(chk (u ++ v) l k).2.2=0):(chk u l k).2.2=0:=by
 rw [X4t] at h
 by_cases q:(chk u l k).2.2=0
 ·exact q
 ·rw [if_neg q] at h; exact absurd h q
theorem Xdb (r:Str) (l:List Str) (i:Nat):X1p (r :: l) i=match rowP r with | some x=>⟨x.1,i + 1,x.2⟩ :: X1p l (i + 1) | none=>X1p l (i + 1):=rfl
theorem Xf0 (x:Ln) (l:List Ln) (s:PSt):X5q (x :: l) s=match (X31 x s).cu.er with | some e=>.error (x.ln,e.1,e.2) | none=>X5q l (X31 x s):=rfl
theorem Xaz:∀ (A B:List Str) (i:Nat),X1p (A ++ B) i=X1p A i ++ X1p B (i + A.length)
 | [],B,i=>rfl
 | r :: A,B,i=>by
  have ih:=Xaz A B (i + 1)
  rw [show i + 1 + A.length=i + (r :: A).length by rw [List.length_cons]; omega] at ih
  rw [List.cons_append,Xdb,Xdb]
  cases rowP r with
  | none=>exact ih
  | some x=>dsimp only; rw [ih]; rfl
theorem rowP_nil:rowP []=none:=rfl
theorem Xdl:∀ (A:List Str) (i:Nat) (x:Ln),x ∈ X1p A i→i < x.ln∧x.ln ≤ i + A.length∧∃ r,A[x.ln - (i + 1)]?=some r∧r ≠ []
 | [],i,x,h=>by cases h
 | r :: A,i,x,h=>by
  have rest:x ∈ X1p A (i + 1)→i < x.ln∧x.ln ≤ i + (r :: A).length∧∃ r',(r :: A)[x.ln - (i + 1)]?=some r'∧r' ≠ []:=fun q=>by
   obtain ⟨a,b,r',e,n⟩:=Xdl A (i + 1) x q
   refine ⟨by omega,by rw [List.length_cons]; omega,r',?_,n⟩
   rw [show x.ln - (i + 1)=(x.ln - (i + 1 + 1)) + 1 by omega]
   exact e
  unfold X1p at h
  cases hp:rowP r with
  | none=>rw [hp] at h; exact rest h
  | some y =>
   rw [hp] at h
   rcases List.mem_cons.mp h with e | q
   ·subst e
    refine ⟨Nat.lt_succ_self _,by show i + 1 ≤ _; rw [List.length_cons]; omega,r,?_,fun e=>?_⟩
    ·show (r :: A)[i + 1 - (i + 1)]?=some r
     rw [Nat.sub_self]; rfl
    ·rw [e,rowP_nil] at hp; cases hp
   ·exact rest q
theorem Xhf:∀ (A B:List Ln) (s:PSt),X5q (A ++ B) s=match X5q A s with | .error e=>.error e | .ok S=>X5q B S
 | [],B,s=>rfl
 | x :: A,B,s=>by
  rw [List.cons_append,Xf0,Xf0]
  cases (X31 x s).cu.er with
  | some e=>rfl
  | none=>exact Xhf A B (X31 x s)
theorem Xl5:∀ (A:List Ln) (s:PSt) (e:Nat × Nat × Int),X5q A s=.error e→∃ x ∈ A,x.ln=e.1
 | [],s,e,h=>by cases h
 | x :: A,s,e,h=>by
  unfold X5q at h
  cases hr:(X31 x s).cu.er with
  | some q =>
   rw [hr] at h
   cases h
   exact ⟨x,List.mem_cons_self ..,rfl⟩
  | none =>
   rw [hr] at h
   obtain ⟨y,a,b⟩:=Xl5 A _ e h
   exact ⟨y,List.mem_cons_of_mem _ a,b⟩
theorem Xfc {s:Str} (h:65536 < s.length):Xl s=(0,0,3):=if_pos h
theorem X4n {s:Str} (h:s.length ≤ 65536):Xl s=chk s 1 1:=if_neg (by omega)
theorem Xf8 {s:Str} (h:65536 < s.length):Xm s=(0,0,3):=by unfold Xm; rw [Xfc h]; rfl
theorem X7e {s:Str} (h:(Xl s).2.2 ≠ 0):Xm s=((Xl s).1,(Xl s).2.1,((Xl s).2.2:Int)):=if_pos h
theorem Xdo {s:Str} (h:(Xl s).2.2=0):Xm s=ansN (X5q (linesT s) st0):=if_neg (fun q=>q h)
theorem Xnz (s:Str) (h0:(Xm s).2.2 ≠ 0) (h5:(Xm s).2.2 ≠ 5) (h3:(Xm s).2.2 ≠ 3):1 ≤ (Xm s).1∧(Xm s).1 ≤ (split 10 s).length ∧
  ∀ y:Str,(ends ((split 10 s).take (Xm s).1) ++ y).length ≤ 65536→Xm (ends ((split 10 s).take (Xm s).1) ++ y)=Xm s ∨
   y ≠ []∧((Xm (ends ((split 10 s).take (Xm s).1) ++ y)).2.2=3∨(Xm (ends ((split 10 s).take (Xm s).1) ++ y)).2.2=70∧(Xm s).1 < (Xm (ends ((split 10 s).take (Xm s).1) ++ y)).1):=by
 have hs:s.length ≤ 65536:=by
  rcases Nat.lt_or_ge 65536 s.length with q | q
  ·exact absurd (by rw [Xf8 q]) h3
  ·exact q
 have hck:=X4n hs
 have hlen:=X46 10 s.length s (Nat.le_refl _)
 have hno:=Xtq s
 have hes:=Xb7 s
 generalize hl:split 10 s=l at hlen hno hes
 have hnt:∀ a,∀ w ∈ l.take a,(10:UInt8) ∉ w:=fun a w hw=>hno w (List.mem_of_mem_take hw)
 by_cases hc:(Xl s).2.2=0
 ·rw [Xdo hc] at h0 h5 h3 ⊢
  rw [hck] at hc
  cases hf:X5q (linesT s) st0 with
  | ok S =>
   exfalso
   rw [hf] at h0 h5
   unfold ansN at h0 h5
   dsimp only at h0 h5
   by_cases q:sOf S.X [0] 0=[]
   ·rw [if_pos q] at h5; exact h5 rfl
   ·rw [if_neg q] at h0; exact h0 rfl
  | error e =>
   rw [hf] at h0 h5 h3
   show 1 ≤ e.1∧e.1 ≤ l.length∧_
   have hlT:linesT s=X1p l 0:=by unfold linesT; rw [hl]
   obtain ⟨x,hx,hxe⟩:=Xl5 _ _ _ hf
   rw [hlT] at hx hf
   obtain ⟨x1,x2,r,x3,x4⟩:=Xdl _ _ _ hx
   rw [hxe] at x1 x2 x3
   have hea:e.1 ≤ l.length:=by omega
   refine ⟨x1,hea,fun y hy=>?_⟩
   have hy:(ends (l.take e.1) ++ y).length ≤ 65536:=hy
   show Xm (ends (l.take e.1) ++ y)=e∨y ≠ []∧((Xm (ends (l.take e.1) ++ y)).2.2=3∨(Xm (ends (l.take e.1) ++ y)).2.2=70∧e.1 < (Xm (ends (l.take e.1) ++ y)).1)
   have htl:(l.take e.1).length=e.1:=by rw [List.length_take]; omega
   -- the rows up to the error
   have x3:l[e.1 - 1]?=some r:=by rw [← x3]
   have htk:l.take e.1=l.take (e.1 - 1) ++ [r]:=by
    rw [show e.1=(e.1 - 1) + 1 by omega,List.take_add_one,show e.1 - 1 + 1 - 1=e.1 - 1 by omega,x3]; rfl
   have hte:ends (l.take e.1)=ends (l.take (e.1 - 1)) ++ r ++ [10]:=by rw [htk,X5z,X42,List.append_assoc]; rfl
   have hr10:(10:UInt8) ∉ r:=hno r (List.mem_of_getElem? x3)
   have hpre:∃ v,(ends (l.take (e.1 - 1)) ++ r) ++ v=s:=by
    have p1:ends (l.take (e.1 - 1)) ++ r <+: s ++ [10]:=⟨[10] ++ ends (l.drop e.1),by
     rw [← hes,← List.append_assoc,← hte,← X5z,List.take_append_drop]⟩
    have p2:s <+: s ++ [10]:=⟨[10],rfl⟩
    refine List.prefix_of_prefix_length_le p1 p2 ?_
    obtain ⟨w,hw⟩:=(⟨ends (l.drop e.1),by rw [← hte,← X5z,List.take_append_drop,hes]⟩:∃ w,ends (l.take (e.1 - 1)) ++ r ++ [10] ++ w=s ++ [10])
    have:=congrArg List.length hw
    simp only [List.length_append,List.length_cons,List.length_nil] at this ⊢
    omega
   obtain ⟨v,hv⟩:=hpre
   generalize hu:ends (l.take (e.1 - 1))=u at hte hv
   have k1:(chk (u ++ r) 1 1).2.2=0:=by rw [← hv] at hc; exact Xv1 hc
   have k2:(chk (u ++ r ++ [10]) 1 1).2.2=0:=by
    rw [X4t,if_pos k1,X9w]
    have hlast:r=r.dropLast ++ [r.getLast x4]:=(List.dropLast_concat_getLast x4).symm
    have hb:r.getLast x4 ≠ 10:=fun q=>hr10 (by rw [← q]; exact List.getLast_mem x4)
    have k3:=k1
    rw [hlast,← List.append_assoc,X4t] at k3
    have k4:(chk (u ++ r.dropLast) 1 1).2.2=0:=by
     by_cases q:(chk (u ++ r.dropLast) 1 1).2.2=0
     ·exact q
     ·rw [if_neg q] at k3; exact absurd k3 q
    rw [if_pos k4,X9w,X7i] at k3
    have k5:(adv (u ++ r) 1 1).1=1 + (u ++ r.dropLast).count 10:=by
     rw [X7i]
     have:(u ++ r).count 10=(u ++ r.dropLast).count 10:=by
      rw [List.count_append,List.count_append,List.count_eq_zero_of_not_mem hr10,List.count_eq_zero_of_not_mem fun q=>hr10 ((List.dropLast_sublist r).subset q)]
     rw [this]
    rw [k5]
    by_cases q:4096 < 1 + (u ++ r.dropLast).count 10
    ·rw [if_pos q] at k3; cases k3
    ·rw [if_neg q]; rfl
   rw [← hte] at k2
   have hadv:(adv (ends (l.take e.1)) 1 1).1=1 + e.1:=by rw [X7i,Xbi _ (hnt _),htl]
   have hch:chk (ends (l.take e.1) ++ y) 1 1=chk y (1 + e.1) (adv (ends (l.take e.1)) 1 1).2:=by rw [X4t,if_pos k2,hadv]
   have hcy:=X4n hy
   rw [hch] at hcy
   by_cases hyk:(chk y (1 + e.1) (adv (ends (l.take e.1)) 1 1).2).2.2=0
   ·left
    rw [← hcy] at hyk
    rw [Xdo hyk]
    have e1:linesT (ends (l.take e.1) ++ y)=X1p (l.take e.1) 0 ++ X1p (split 10 y) (0 + (l.take e.1).length):=by
     unfold linesT
     rw [Xfo _ _ (hnt _),Xaz]
    have e2:X5q (X1p (l.take e.1) 0) st0=.error e:=by
     have q:l=l.take e.1 ++ l.drop e.1:=(List.take_append_drop _ _).symm
     rw [q,Xaz,Xhf] at hf
     cases hg:X5q (X1p (l.take e.1) 0) st0 with
     | error e'=>rw [hg] at hf; exact hf
     | ok S =>
      exfalso
      rw [hg] at hf
      obtain ⟨z,z1,z2⟩:=Xl5 _ _ _ hf
      obtain ⟨z3,_⟩:=Xdl _ _ _ z1
      omega
    rw [e1,Xhf,e2]
    rfl
   ·right
    refine ⟨fun q=>hyk (by rw [q]; rfl),?_⟩
    obtain ⟨a,_,b⟩:=Xbt _ _ _ hyk
    rw [← hcy] at hyk a b
    rw [X7e hyk]
    rcases b with b | b
    ·left
     show (((Xl (ends (l.take e.1) ++ y)).2.2:Nat):Int)=3
     rw [b]; rfl
    ·right
     refine ⟨?_,?_⟩
     ·show (((Xl (ends (l.take e.1) ++ y)).2.2:Nat):Int)=70
      rw [b]; rfl
     ·show e.1 < (Xl (ends (l.take e.1) ++ y)).1
      omega
 ·rw [X7e hc] at h3 ⊢
  rw [hck] at hc h3 ⊢
  obtain ⟨a1,a2,a3⟩:=Xbt _ _ _ hc
  generalize hP:chk s 1 1=p at hc h3 a1 a2 a3 hck
  show 1 ≤ p.1∧p.1 ≤ l.length∧_
  have hpl:p.1 ≤ l.length:=by omega
  have htl:(l.take p.1).length=p.1:=by rw [List.length_take]; omega
  refine ⟨a1,hpl,fun y hy=>.inl ?_⟩
  have hy:(ends (l.take p.1) ++ y).length ≤ 65536:=hy
  show Xm (ends (l.take p.1) ++ y)=(p.1,p.2.1,(p.2.2:Int))
  have e1:chk (ends (l.take p.1) ++ ends (l.drop p.1)) 1 1=p:=by
   rw [← X5z,List.take_append_drop,hes,X4t,hP,if_neg hc]
  have e2:(chk (ends (l.take p.1)) 1 1).2.2 ≠ 0:=fun q=>by
   rw [X4t,if_pos q,X7i,Xbi _ (hnt _),htl] at e1
   obtain ⟨b,_⟩:=Xbt _ _ _ (by rw [e1]; exact hc)
   rw [e1] at b
   omega
  have e3:chk (ends (l.take p.1)) 1 1=p:=by rw [X4t,if_neg e2] at e1; exact e1
  have e4:Xl (ends (l.take p.1) ++ y)=p:=by rw [X4n hy,X4t,if_neg e2,e3]
  rw [X7e (by rw [e4]; exact hc),e4]
noncomputable def Xmy (s more:Str):Bool:=
 let P:=Xm s
 let l:=split 10 s
 if P.2.2=0∨P.2.2=5∨P.2.2=3∨P.1 < 1∨l.length < P.1 then decide (P.2.2=0) || decide (P.1=0) || decide (P.2.2=3)
 else if (Xm (ends (l.take P.1))).2.2 ≠ P.2.2∨(Xm (ends (l.take P.1))).1 ≠ P.1∨(Xm (ends (l.take P.1))).2.1 ≠ P.2.1 then decide (65536 < (ends (l.take P.1)).length)
 else if (Xm (ends (l.take P.1) ++ more)).2.2=P.2.2∧(Xm (ends (l.take P.1) ++ more)).1=P.1∧(Xm (ends (l.take P.1) ++ more)).2.1=P.2.1 then true
 else decide ((Xm (ends (l.take P.1) ++ more)).2.2=3) || (decide ((Xm (ends (l.take P.1) ++ more)).2.2=70) && decide (P.1 < (Xm (ends (l.take P.1) ++ more)).1))
theorem Xkx {s:Str} (hE:Xpc s) (h:(Xm s).2.2=5):(Xm s).1=0:=by
 by_cases hc:(Xl s).2.2=0
 ·rw [Xdo hc] at h ⊢
  cases hf:X5q (linesT s) st0 with
  | error e =>
   rw [hf] at h
   exact absurd h (hE hc e hf).2
  | ok S =>
   unfold ansN
   dsimp only
   split <;> rfl
 ·rw [X7e hc] at h
  exfalso
  have h:(((Xl s).2.2:Nat):Int)=5:=h
  rcases Nat.lt_or_ge 65536 s.length with q | q
  ·rw [Xfc q] at h; cases h
  ·rw [X4n q] at h hc
   rcases (Xbt _ _ _ hc).2.2 with e | e <;> rw [e] at h <;> cases h
theorem Xr1 (s more:Str) (hE:Xpc s):Xmy s more=true:=by
 unfold Xmy
 dsimp only
 by_cases h0:(Xm s).2.2=0
 ·rw [if_pos (.inl h0),decide_eq_true h0]; rfl
 ·by_cases h5:(Xm s).2.2=5
  ·rw [if_pos (.inr (.inl h5)),decide_eq_true (Xkx hE h5),Bool.or_true]; rfl
  ·by_cases h3:(Xm s).2.2=3
   ·rw [if_pos (.inr (.inr (.inl h3))),decide_eq_true h3,Bool.or_true]
   ·obtain ⟨a,b,g⟩:=Xnz s h0 h5 h3
    rw [if_neg (by omega)]
    generalize ht:ends ((split 10 s).take (Xm s).1)=t at g ⊢
    by_cases q:(Xm t).2.2 ≠ (Xm s).2.2∨(Xm t).1 ≠ (Xm s).1∨(Xm t).2.1 ≠ (Xm s).2.1
    ·rw [if_pos q]
     rcases Nat.lt_or_ge 65536 t.length with w | w
     ·exact decide_eq_true w
     ·exfalso
      have:=g [] (by rw [List.append_nil]; exact w)
      rw [List.append_nil] at this
      rcases this with e | ⟨e,_⟩
      ·rw [e] at q
       rcases q with q | q | q <;> exact q rfl
      ·exact e rfl
    ·rw [if_neg q]
     rcases Nat.lt_or_ge 65536 (t ++ more).length with w | w
     ·rw [Xf8 w]
      split
      ·rfl
      ·rfl
     ·rcases g more w with e | ⟨_,e⟩
      ·rw [e,if_pos ⟨rfl,rfl,rfl⟩]
      ·split
       ·rfl
       ·rcases e with e | ⟨e1,e2⟩
        ·rw [decide_eq_true e]; rfl
        ·rw [decide_eq_true e1,decide_eq_true e2]; simp
end Go.Ab.Sh

set_option maxRecDepth 100000
namespace Go.Ab.Sh
open Go Go.Ab Go.Lib
theorem Xbd (G:Gt) (B:Nat) (s:Str) (hs:s.length ≤ 4194304):∀ (rest cur pre:Str) (ws:List Str) (v:Value) (m:Mem) (k:Nat),s=pre ++ cur ++ rest→rest.length + 1 < k→ws.length ≤ pre.length→B ≤ m.next→SA B m v ws →
  ∃ v' m',Q1f G k (I (pre.length + cur.length:Nat)) (sv s) v (I pre.length) m=some (v',m')∧Fb B m m'∧SA B m' v' (ws ++ spl 10 cur rest)
 | [],cur,pre,ws,v,m,k,he,hk,hw,hB,hS=>by
  obtain ⟨k,rfl⟩:∃ j,k=j + 2:=⟨k - 2,by simp at hk; omega⟩
  have hl:s.length=pre.length + cur.length:=by rw [he]; simp
  obtain ⟨m2,v',m',k1,k2,k3,k4⟩:=hS.app (e:=Q1) hB (by omega) cur
  refine ⟨v',m',?_,k3,k4⟩
  have w1:IntKind.i64.wrap (((pre.length + cur.length:Nat):Int) + 1)=((pre.length + cur.length + 1:Nat):Int):=by rw [IntWalk.i64_in _ (by omega)]; omega
  have hsub:=Xrw pre cur []
  rw [← he] at hsub
  have e0:Value.string ⟨#[]⟩=sv []:=rfl
  unfold Q1f Q84 Q66 Q67
  simp only [X3r,X4,Qhj,Xt,hl,Int.le_refl,if_true,Q3y,Xc,Xpe s pre.length (pre.length + cur.length) (by omega) (by omega),hsub,e0,k1,X6,k2,Q3p,w1]
  unfold Q1f Qca
  have hn:¬ (((pre.length + cur.length + 1:Nat):Int) ≤ ((pre.length + cur.length:Nat):Int)):=by omega
  simp only [X3r,X4,Qhj,Xt,hl,if_neg hn]
 | a :: rest,cur,pre,ws,v,m,k,he,hk,hw,hB,hS=>by
  obtain ⟨k,rfl⟩:∃ j,k=j + 1:=⟨k - 1,by simp at hk; omega⟩
  have hl:s.length=pre.length + cur.length + (rest.length + 1):=by rw [he]; simp; omega
  have hle:((pre.length + cur.length:Nat):Int) ≤ (s.length:Int):=by omega
  have hne:¬ ((pre.length + cur.length:Nat):Int)=(s.length:Int):=by omega
  have w1:IntKind.i64.wrap (((pre.length + cur.length:Nat):Int) + 1)=((pre.length + cur.length + 1:Nat):Int):=by rw [IntWalk.i64_in _ (by omega)]; omega
  have hix:s[pre.length + cur.length]'(by omega)=a:=by
   have:s[pre.length + cur.length]?=some a:=by rw [he,List.getElem?_append_right (by simp)]; simp
   exact (List.getElem?_eq_some_iff.mp this).2
  have e0:Value.string ⟨#[]⟩=sv []:=rfl
  unfold Q1f Q84 Q66 Q67 spl
  simp only [X3r,X4,Qhj,Xt,if_pos hle,Q3y,if_neg hne,X6c s .i64 (pre.length + cur.length) (by omega),hix]
  by_cases hc:a=10
  ·obtain ⟨m2,v',m',k1,k2,k3,k4⟩:=hS.app (e:=Q1) hB (by omega) cur
   have hsub:=Xrw pre cur (a :: rest)
   rw [← he] at hsub
   have hc2:((a.toNat:Int)=10):=by rw [hc]; rfl
   rw [if_pos hc,if_pos hc2]
   simp only [Xpe s pre.length (pre.length + cur.length) (by omega) (by omega),hsub,e0,X4,k1,X6,k2,Q3p,w1]
   obtain ⟨v2,m3,q1,q2,q3⟩:=Xbd G B s hs rest [] (pre ++ cur ++ [a]) (ws ++ [cur]) v' m' k (by rw [he]; simp) (by simp at hk; omega) (by simp; omega) (Nat.le_trans hB k3.next) k4
   refine ⟨v2,m3,?_,k3.trans q2,by simpa using q3⟩
   rw [← q1]
   simp [Nat.add_assoc]
  ·have hc2:¬ ((a.toNat:Int)=10):=fun h=>hc (by apply UInt8.toNat_inj.mp; have:(10:UInt8).toNat=10:=rfl; omega)
   rw [if_neg hc,if_neg hc2]
   simp only [Q3p,X4,w1]
   obtain ⟨v2,m3,q1,q2,q3⟩:=Xbd G B s hs rest (cur ++ [a]) pre ws v m k (by rw [he]; simp) (by simp at hk; omega) hw hB hS
   refine ⟨v2,m3,?_,q2,q3⟩
   rw [← q1]
   simp [Nat.add_assoc]
theorem c_cut13 (s:Str) (hs:s.length ≤ 4194304) (d:Nat) (m:Mem):∃ v m1,TA (d + 1) Q77 [sv s] m=some (v,m1)∧Fr [] m m1∧SL m1 v (split 10 s)∧refs m.next 8 v=false:=by
 rw [X9t]
 obtain ⟨v',m',k1,k2,k3⟩:=Xbd ⟨TA d,18446744073709551616⟩ m.next s hs s [] [] [] (.slice none 0 0) (withLow m m.next) 18446744073709551616 rfl (by omega) (Nat.le_refl _) (Nat.le_refl _) (.inl ⟨rfl,rfl⟩)
 rw [List.nil_append,Xx2] at k3
 obtain ⟨q1,q2⟩:=k3.sl (X67 10 s)
 have hx:Q3t ⟨TA d,18446744073709551616⟩ (sv s) (withLow m m.next)=some (v',m'):=by
  unfold Q3t Qcb Qcc Qcd Qce
  exact k1
 obtain ⟨m2,r1,r2,r3,r4⟩:=Xxh (m:=m) hx k2 q2
 exact ⟨v',m2,r1,r2,SL.same q1 (by omega) r4,q2⟩
end Go.Ab.Sh

set_option maxRecDepth 100000
namespace Go.Ab.Sh
open Go Go.Ab Go.Lib
noncomputable abbrev gw (d:Nat):Gt:=⟨TA (d + 10),18446744073709551616⟩
noncomputable def PAt (m:Mem) (b:Nat) (a c:Nat):Prop:=∃ ty,m.get b=some (.cells [I a,I c] 0 0 false ty)
theorem PAt.l0 {m:Mem} {b a c:Nat} (h:PAt m b a c):X7 false 1 (pt b 0 0) m=some (I a):=by obtain ⟨ty,h⟩:=h; exact X17 h rfl
theorem PAt.l1 {m:Mem} {b a c:Nat} (h:PAt m b a c):X7 false 1 (pt b 1 0) m=some (I c):=by obtain ⟨ty,h⟩:=h; exact X17 h rfl
theorem PAt.fr {m m':Mem} {b a c:Nat} (h:PAt m b a c) (hb:b < m.next) (f:Fr [] m m'):PAt m' b a c:=by obtain ⟨ty,h⟩:=h; exact ⟨ty,by rw [f.get b hb (by simp)]; exact h⟩
theorem Xhr (hS:X5e) (s:Str) (d:Nat) (m:Mem):∃ m' b,(∀ k:Value→Value→Mem→Option Rs,(bp (TA (d + 10) Q65 [sv s] m) fun x19 m =>
 bp (pur (Xd x19 0) m) fun x20 m =>
 bp (pur (Xd x19 1) m) fun x21 m =>
 bp (pur (Xd x19 2) m) fun x22 m =>
 bp (some (aNew Q2j Qf m)) fun x23 m =>
 bp (some (aNew Q5 Q2 m)) fun x24 m =>
 bp (unt (X8 12 x23 x20 m)) fun _ m =>
 bp (unt (X8 2 x24 x21 m)) fun _ m =>
 k x22 x24 m)=k (.int .i64 (Xm s).2.2) (pt b 0 0) m')∧Fr [] m m'∧b < m'.next∧PAt m' b (Xm s).1 (Xm s).2.1∧Xpc s:=by
 obtain ⟨dv,m1,e1,f1,hE,c12,c1⟩:=c_Parse hS s d m
 generalize hm2:m1.push (.cells Qf 0 0 false (some (2 * Q2j + 1)))=m2
 have hn2:m2.next=m1.next + 1:=by rw [← hm2]; rfl
 have f2:Fr [] m1 m2:=by rw [← hm2]; exact Fr.push _
 have g2:m2.get m1.next=some (.cells Qf 0 0 false (some (2 * Q2j + 1))):=by rw [← hm2,Mem.get_push,if_pos rfl]
 generalize hm3:m2.push (.cells Q2 0 0 false (some (2 * Q5 + 1)))=m3
 have hn3:m3.next=m2.next + 1:=by rw [← hm3]; rfl
 have f3:Fr [] m1 m3:=by rw [← hm3]; exact f2.trans (Fr.push _)
 have g3:m3.get m2.next=some (.cells Q2 0 0 false (some (2 * Q5 + 1))):=by rw [← hm3,Mem.get_push,if_pos rfl]
 have g31:m3.get m1.next=some (.cells Qf 0 0 false (some (2 * Q2j + 1))):=by rw [← hm3,Mem.get_push,if_neg (by omega)]; exact g2
 obtain ⟨m4,k1,k2⟩:=X1s (o:=0) (n:=12) (v:=.agg ⟨dv⟩) (c':=dv) g31 c12 (Nat.zero_le _) (by show 0 + 12 ≤ 12; omega) c1 (by
  show [] ++ dv ++ Qf.drop (0 + 12)=dv
  rw [List.drop_eq_nil_of_le (by show 12 ≤ 0 + 12; omega)]; simp)
 have f4:Fr [] m1 m4:=(f3.put _ (.inr (Nat.le_refl _))).meq k2
 have g4:m4.get m2.next=some (.cells Q2 0 0 false (some (2 * Q5 + 1))):=by rw [k2.get,Mem.get_put,if_neg (by omega)]; exact g3
 obtain ⟨m5,q1,q2⟩:=X1s (o:=0) (n:=2) (v:=posV (Xm s).1 (Xm s).2.1) (c':=[I (Xm s).1,I (Xm s).2.1]) g4 rfl (Nat.zero_le _) (by show 0 + 2 ≤ 2; omega) rfl rfl
 have f5:Fr [] m1 m5:=(f4.put _ (.inr (by omega))).meq q2
 refine ⟨m5,m2.next,fun k=>?_,f1.trans f5,?_,⟨_,by rw [q2.get,Mem.get_put,if_pos rfl]⟩,hE⟩
 ·have q1:X8 2 (pt m2.next 0 0) (posV (Xm s).1 (Xm s).2.1) m4=some m5:=q1
  simp only [e1,X6,ex0,ex1,ex2,X4,X12,hm2,hm3,k1,Xp,q1]
 ·rw [q2.next,Mem.next_put,k2.next,Mem.next_put]; omega
theorem Xl3 (a b:Nat) (c g:Bool):bin .gtr c g .int (I a) (I b)=some (.bool (decide (b < a))):=by
 rw [Qby]; congr 2; rw [decide_eq_decide]; omega
theorem Xou (a b:Nat) (c g:Bool):bin .eql c g .int (I a) (I b)=some (.bool (decide (a=b))):=by
 rw [Q3y]; congr 2; rw [decide_eq_decide]; omega
theorem Xw1 (a b:Nat) (c g:Bool):bin .neq c g .int (I a) (I b)=some (.bool (decide (a ≠ b))):=by
 rw [Q4z]; congr 2; rw [decide_eq_decide]; omega
noncomputable def Xky (P Q:Nat × Nat × Int):Bool:=if Q.2.2=P.2.2∧Q.1=P.1∧Q.2.1=P.2.1 then true else decide (Q.2.2=3) || (decide (Q.2.2=70) && decide (P.1 < Q.1))
theorem wh_9 (P Q:Nat × Nat × Int) (G:Gt) (m:Mem) (b15 b6:Nat) (h15:PAt m b15 Q.1 Q.2.1) (h6:PAt m b6 P.1 P.2.1):Q53 G (.int .i64 Q.2.2) (.int .i64 P.2.2) (pt b15 0 0) (pt b6 0 0) m=some (.bool (Xky P Q),m):=by
 have hX:Q4a G (.int .i64 Q.2.2) (pt b15 0 0) (pt b6 0 0) m=some (.bool (decide (Q.2.2=3) || (decide (Q.2.2=70) && decide (P.1 < Q.1))),m):=by
  unfold Q4a Q2n
  have q3:bin .eql true true .int (.int .i64 Q.2.2) (.int .i64 3)=some (.bool (decide (Q.2.2=3))):=Q3y _ _ _ _ _
  have q70:bin .eql true true .int (.int .i64 Q.2.2) (.int .i64 70)=some (.bool (decide (Q.2.2=70))):=Q3y _ _ _ _ _
  simp only [Xe,X4,Nat.zero_add,h15.l0,h6.l0,Xl3,q3,q70,Xt]
  by_cases e1:Q.2.2=3
  ·rw [if_pos e1,decide_eq_true e1]; rfl
  ·rw [if_neg e1,decide_eq_false e1,Bool.false_or]
   by_cases e2:Q.2.2=70
   ·rw [if_pos e2,decide_eq_true e2,Bool.true_and]
   ·rw [if_neg e2,decide_eq_false e2,Bool.false_and]
 unfold Q53 Q2o Xky
 have qE:bin .eql false true .int (.int .i64 Q.2.2) (.int .i64 P.2.2)=some (.bool (decide (Q.2.2=P.2.2))):=Q3y _ _ _ _ _
 simp only [Xe,X4,Nat.zero_add,h15.l0,h6.l0,h15.l1,h6.l1,Xou,qE,Xt,Xa,hX]
 by_cases e1:Q.2.2=P.2.2
 ·by_cases e2:Q.1=P.1
  ·by_cases e3:Q.2.1=P.2.1
   ·rw [if_pos e1,if_pos e2,if_pos e3,if_pos ⟨e1,e2,e3⟩]
   ·rw [if_pos e1,if_pos e2,if_neg e3,if_neg (fun h=>e3 h.2.2)]
  ·rw [if_pos e1,if_neg e2,if_neg (fun h=>e2 h.2.1)]
 ·rw [if_neg e1,if_neg (fun h=>e1 h.1)]
theorem wh_8 (hS:X5e) (P:Nat × Nat × Int) (d:Nat) (m:Mem) (b6:Nat) (t more:Str) (hl:t.length + more.length < 4611686018427387904) (h6:PAt m b6 P.1 P.2.1) (hb6:b6 < m.next):∃ m',Q54 (gw d) (sv t) (sv more) (.int .i64 P.2.2) (pt b6 0 0) m=some (.bool (Xky P (Xm (t ++ more))),m')∧Fr [] m m':=by
 obtain ⟨m1,b,e,f,hb,hp,_⟩:=Xhr hS (t ++ more) d m
 refine ⟨m1,?_,f⟩
 unfold Q54
 rw [Qi3 _ _ _ _ hl,X4]
 rw [e]
 exact wh_9 P _ _ m1 b b6 hp (h6.fr hb6 f)
theorem wh_7 (hS:X5e) (P R:Nat × Nat × Int) (d:Nat) (m:Mem) (b6 b12:Nat) (t more:Str) (hl:t.length + more.length < 4611686018427387904) (h6:PAt m b6 P.1 P.2.1) (hb6:b6 < m.next) (h12:PAt m b12 R.1 R.2.1) :
  ∃ m',Q55 (gw d) (.int .i64 R.2.2) (.int .i64 P.2.2) (pt b12 0 0) (pt b6 0 0) (sv t) (sv more) m=some (.bool (if R.2.2 ≠ P.2.2∨R.1 ≠ P.1∨R.2.1 ≠ P.2.1 then decide (65536 < t.length) else Xky P (Xm (t ++ more))),m')∧Fr [] m m':=by
 obtain ⟨m1,k1,k2⟩:=wh_8 hS P d m b6 t more hl h6 hb6
 have h13:∀ x:Bool,Q1v (gw d) (.bool x) (sv t) (sv more) (.int .i64 P.2.2) (pt b6 0 0) m=if x=true then some (.bool (decide (65536 < t.length)),m) else some (.bool (Xky P (Xm (t ++ more))),m1):=fun x=>by
  unfold Q1v
  have e1:bin .gtr true true .int (.int .i64 (t.length:Int)) (.int .i64 65536)=some (.bool (decide (65536 < t.length))):=Xl3 t.length 65536 true true
  simp only [X3r,X4,e1,k1]
  cases x with
  | true=>rw [Xc,if_pos rfl]
  | false=>rw [Xa,if_neg (by decide)]
 unfold Q55
 have qE:bin .neq false true .int (.int .i64 R.2.2) (.int .i64 P.2.2)=some (.bool (decide (R.2.2 ≠ P.2.2))):=Q4z _ _ _ _ _
 simp only [Xe,X4,Nat.zero_add,h12.l0,h6.l0,h12.l1,h6.l1,Xw1,h13,qE,Xt]
 by_cases e1:R.2.2 ≠ P.2.2
 ·exact ⟨m,by rw [if_pos e1,if_pos trivial,if_pos (.inl e1)],.refl _ _⟩
 ·by_cases e2:R.1 ≠ P.1
  ·exact ⟨m,by rw [if_neg e1,if_pos e2,if_pos trivial,if_pos (.inr (.inl e2))],.refl _ _⟩
  ·by_cases e3:R.2.1 ≠ P.2.1
   ·exact ⟨m,by rw [if_neg e1,if_neg e2,if_pos (decide_eq_true e3),if_pos (.inr (.inr e3))],.refl _ _⟩
   ·exact ⟨m1,by rw [if_neg e1,if_neg e2,if_neg (by rw [decide_eq_false e3]; decide),if_neg (fun h=>h.elim e1 fun h=>h.elim e2 e3)],k2⟩
theorem wh_6 (hS:X5e) (P:Nat × Nat × Int) (d:Nat) (m:Mem) (b6:Nat) (t more:Str) (hl:t.length + more.length < 4611686018427387904) (h6:PAt m b6 P.1 P.2.1) (hb6:b6 < m.next) :
  ∃ m',Q30 (gw d) (sv t) (.int .i64 P.2.2) (pt b6 0 0) (sv more) m=some (.bool (if (Xm t).2.2 ≠ P.2.2∨(Xm t).1 ≠ P.1∨(Xm t).2.1 ≠ P.2.1 then decide (65536 < t.length) else Xky P (Xm (t ++ more))),m')∧Fr [] m m':=by
 obtain ⟨m1,b,e,f,hb,hp,_⟩:=Xhr hS t d m
 obtain ⟨m2,k1,k2⟩:=wh_7 hS P (Xm t) d m1 b6 b t more hl (h6.fr hb6 f) (Nat.lt_of_lt_of_le hb6 f.next) hp
 refine ⟨m2,?_,f.trans k2⟩
 unfold Q30
 rw [e]
 exact k1
theorem Xyc (P:Nat × Nat × Int) (l:List Str) (v:Value) (d:Nat) (m:Mem) (b6:Nat) (more:Str) (hv:SL m v l) (h6:PAt m b6 P.1 P.2.1) (hP:P.1 ≤ l.length) (hl:(ends l).length < 4611686018427387904) (hP2:P.1 < 9223372036854775807):∀ (n i f:Nat),i + n=P.1→n < f →
  Q1w (gw d) f (I i) (pt b6 0 0) (sv (ends (l.take i))) v (.int .i64 P.2.2) (sv more) m=Q30 (gw d) (sv (ends (l.take P.1))) (.int .i64 P.2.2) (pt b6 0 0) (sv more) m
 | 0,i,f + 1,e,hf=>by
  have:i=P.1:=by omega
  subst this
  unfold Q1w
  have e1:bin .lss false true .int (I (P.1:Nat)) (I (P.1:Nat))=some (.bool false):=by rw [Qw,decide_eq_false (by omega)]
  simp only [Xe,X4,Nat.zero_add,h6.l0,e1,Xa]
 | n + 1,i,f + 1,e,hf=>by
  have hi:i < P.1:=by omega
  have hil:i < l.length:=by omega
  unfold Q1w
  have e1:bin .lss false true .int (I i) (I (P.1:Nat))=some (.bool true):=by rw [Qw,decide_eq_true (by omega)]
  obtain ⟨p,p1,p2⟩:=hv.at (List.getElem?_eq_getElem hil)
  have htk:ends (l.take (i + 1))=ends (l.take i) ++ l[i] ++ [10]:=by
   rw [List.take_add_one,List.getElem?_eq_getElem hil,X5z]
   show ends (l.take i) ++ ends [l[i]]=_
   rw [X42,List.append_assoc]; rfl
  have hlen:(ends (l.take (i + 1))).length ≤ (ends l).length:=by
   have:ends l=ends (l.take (i + 1)) ++ ends (l.drop (i + 1)):=by rw [← X5z,List.take_append_drop]
   rw [this,List.length_append]; omega
  have hlen2:(ends (l.take i) ++ l[i] ++ [10]).length ≤ (ends l).length:=by rw [← htk]; exact hlen
  simp only [List.length_append,List.length_cons,List.length_nil] at hlen2
  have a1:bin .add false true .str (sv (ends (l.take i))) (sv l[i])=some (sv (ends (l.take i) ++ l[i])):=Qi3 _ _ _ _ (by omega)
  have a2:bin .add true true .str (sv (ends (l.take i) ++ l[i])) (.string ⟨#[10]⟩)=some (sv (ends (l.take (i + 1)))):=by
   rw [htk]
   exact Qi3 _ _ _ [10] (by simp only [List.length_append,List.length_cons,List.length_nil]; omega)
  have a3:bin .add true true .int (I i) (.int .i64 1)=some (I (i + 1:Nat)):=by
   rw [Q3p]
   have:((i:Nat):Int) + 1=((i + 1:Nat):Int):=by omega
   rw [this,wrap64 _ (by omega)]
  simp only [Xe,X4,Nat.zero_add,h6.l0,e1,Xc,p1,p2,a1,a2,a3]
  exact Xyc P l v d m b6 more hv h6 hP hl hP2 n (i + 1) f (by omega) (by omega)
theorem Xt1 (s:Str):(ends (split 10 s)).length=s.length + 1:=by rw [Xb7,List.length_append]; rfl
theorem c_FlatWhere (hS:X5e) (hW:∀ d m,TA (d + 1) Q20 [] m=some (.bool true,m)) (s more:Str) (hs:s.length ≤ 4194304) (hm:more.length ≤ 4194304) (d:Nat) (m:Mem):TA (d + 11) Q3u [sv s,sv more] m=some (.bool true,m):=by
 rw [X5d]
 generalize hm0:withLow m m.next=m0
 have key:∃ m',Q1t (gw d) (sv s) (sv more) m0=some (.bool true,m')∧Fr [] m0 m':=by
  unfold Q1t Q7p
  have hw:TA (d + 10) Q20 [] m0=some (.bool true,m0):=hW (d + 9) _
  have en:un .not (.bool true)=some (.bool false):=X5m true
  simp only [hw,X6,en,X4,Xa]
  unfold Q7q
  obtain ⟨m1,b,e,f,hb,hp,hE⟩:=Xhr hS s d m0
  rw [e]
  unfold Q7r
  obtain ⟨v,m2,c1,c2,c3,_⟩:=c_cut13 s hs (d + 9) m1
  have c1:TA (d + 10) Q77 [sv s] m1=some (v,m2):=c1
  simp only [c1,X6]
  have hp2:=hp.fr hb c2
  have hb2:b < m2.next:=Nat.lt_of_lt_of_le hb c2.next
  have hlaw:=Xr1 s more hE
  have hel:=Xt1 s
  have hsl:=X46 10 s.length s (Nat.le_refl _)
  generalize hP:Xm s=P at hp2 hlaw
  have eq0:∀ z:Int,bin .eql true true .int (.int .i64 P.2.2) (.int .i64 z)=some (.bool (decide (P.2.2=z))):=fun z=>Q3y _ _ _ _ _
  have e1:bin .lss true true .int (I P.1) (.int .i64 1)=some (.bool (decide (P.1 < 1))):=by rw [Qw]; congr 2; rw [decide_eq_decide]; omega
  have e2:bin .eql true true .int (I P.1) (.int .i64 0)=some (.bool (decide (P.1=0))):=Xou P.1 0 true true
  have fin:∀ (hno:¬ (P.2.2=0∨P.2.2=5∨P.2.2=3∨P.1 < 1∨(split 10 s).length < P.1)),∃ m',Q56 (gw d) (pt b 0 0) v (.int .i64 P.2.2) (sv more) m2=some (.bool true,m')∧Fr [] m2 m':=fun hno=>by
   have hPl:P.1 ≤ (split 10 s).length:=by omega
   have hcnt:=List.count_le_length (a:=(10:UInt8)) (l:=s)
   have htl:(ends ((split 10 s).take P.1)).length ≤ s.length + 1:=by
    have q:ends (split 10 s)=ends ((split 10 s).take P.1) ++ ends ((split 10 s).drop P.1):=by rw [← X5z,List.take_append_drop]
    rw [q,List.length_append] at hel
    omega
   obtain ⟨m3,q1,q2⟩:=wh_6 hS P d m2 b (ends ((split 10 s).take P.1)) more (by omega) hp2 hb2
   refine ⟨m3,?_,q2⟩
   unfold Q56 Q7s Q78
   have h15:=Xyc P (split 10 s) v d m2 b more c3 hp2 hPl (by omega) (by omega) P.1 0 18446744073709551616 (by omega) (by omega)
   refine Eq.trans h15 (Eq.trans q1 ?_)
   unfold Xmy at hlaw
   dsimp only at hlaw
   rw [hP,if_neg hno] at hlaw
   unfold Xky
   refine congrArg (fun b=>some (Value.bool b,m3)) (Eq.trans ?_ hlaw)
   rfl
  have sml:∀ (hyes:P.2.2=0∨P.2.2=5∨P.2.2=3∨P.1 < 1∨(split 10 s).length < P.1),Q9 (gw d) (.bool true) (.int .i64 P.2.2) (pt b 0 0) v (sv more) m2=some (.bool true,m2):=fun hyes=>by
   unfold Xmy at hlaw
   dsimp only at hlaw
   rw [hP,if_pos hyes] at hlaw
   unfold Q9 Q2p
   simp only [Xe,X4,Nat.zero_add,hp2.l0,e2,eq0,Xc,Xt]
   by_cases h0:P.2.2=0
   ·rw [if_pos h0]
   ·rw [if_neg h0]
    by_cases h1:P.1=0
    ·rw [if_pos h1]
    ·rw [if_neg h1]
     rw [decide_eq_false h0,decide_eq_false h1,Bool.false_or,Bool.false_or] at hlaw
     rw [hlaw]
  unfold Q7t
  have e3:bin .gtr false true .int (I P.1) (I (split 10 s).length)=some (.bool (decide ((split 10 s).length < P.1))):=Xl3 _ _ _ _
  simp only [Xe,X4,Nat.zero_add,hp2.l0,e1,eq0,c3.len,e3]
  simp only [Xt]
  have join:∃ m',(if P.2.2=0 then Q9 (gw d) (.bool true) (.int .i64 P.2.2) (pt b 0 0) v (sv more) m2 else if P.2.2=5 then Q9 (gw d) (.bool true) (.int .i64 P.2.2) (pt b 0 0) v (sv more) m2 else if P.2.2=3 then Q9 (gw d) (.bool true) (.int .i64 P.2.2) (pt b 0 0) v (sv more) m2 else if P.1 < 1 then Q9 (gw d) (.bool true) (.int .i64 P.2.2) (pt b 0 0) v (sv more) m2 else Q9 (gw d) (.bool (decide ((split 10 s).length < P.1))) (.int .i64 P.2.2) (pt b 0 0) v (sv more) m2)=some (.bool true,m')∧Fr [] m2 m':=by
   by_cases h0:P.2.2=0
   ·rw [if_pos h0]; exact ⟨m2,sml (.inl h0),.refl _ _⟩
   ·rw [if_neg h0]
    by_cases h5:P.2.2=5
    ·rw [if_pos h5]; exact ⟨m2,sml (.inr (.inl h5)),.refl _ _⟩
    ·rw [if_neg h5]
     by_cases h3:P.2.2=3
     ·rw [if_pos h3]; exact ⟨m2,sml (.inr (.inr (.inl h3))),.refl _ _⟩
     ·rw [if_neg h3]
      by_cases h1:P.1 < 1
      ·rw [if_pos h1]; exact ⟨m2,sml (.inr (.inr (.inr (.inl h1)))),.refl _ _⟩
      ·rw [if_neg h1]
       by_cases hL:(split 10 s).length < P.1
       ·rw [decide_eq_true hL]; exact ⟨m2,sml (.inr (.inr (.inr (.inr hL)))),.refl _ _⟩
       ·rw [decide_eq_false hL]
        obtain ⟨m3,q1,q2⟩:=fin (by omega)
        refine ⟨m3,?_,q2⟩
        unfold Q9
        rw [Xa]
        exact q1
  obtain ⟨m',j1,j2⟩:=join
  exact ⟨m',j1,f.trans (c2.trans j2)⟩
 obtain ⟨m',k1,k2⟩:=key
 rw [← hm0] at k1 k2
 rw [hm0] at k1
 exact X1l (m1:=m') k1 k2 rfl
end Go.Ab.Sh

set_option maxRecDepth 100000
namespace Go.Ab.Sh
open Go Go.Ab Go.Lib
theorem Xsy:X5e:=by
 intro L n d m cs ty hL hlen hn hint hone
 cases n with
 | zero =>
  refine ⟨m,Xes (o:=Qj1) (by kernel_rfl) ?_ (d + 9),Nat.le_refl _,Nat.le_refl _,.inl rfl⟩
  have e:slV L 0 15=.slice none 0 0:=if_pos rfl
  rw [e]
  unfold Qj1 Xhx
  dsimp only
  rw [if_pos ⟨rfl,rfl,rfl,rfl⟩]
 | succ n =>
  have e:slV L (n + 1) 15=.slice (some ⟨L.b,0,some 15⟩) (n + 1) (2 * L.ver + L.r):=if_neg (by omega)
  obtain ⟨hr,hlt,hg⟩:=hL (by omega)
  refine ⟨m.put L.b (.cells [] (L.ver + 1) 0 false none),Xes (o:=Qj1) (by kernel_rfl) ?_ (d + 9),Nat.le_of_eq (Mem.next_put _ _ _).symm,by rw [Mem.low_put]; exact Nat.min_le_left _ _,.inr ⟨by omega,fun y h1 h2=>by rw [Mem.low_put]; omega,by rw [Mem.low_put]; exact Nat.min_le_right _ _,fun b hb hne=>by rw [Mem.get_put,if_neg (Ne.symm hne)]⟩⟩
  rw [e]
  unfold Qj1 Xhx
  dsimp only
  rw [if_pos ⟨rfl,rfl,rfl,rfl⟩,if_pos ⟨rfl,by omega⟩,hg]
  dsimp only
  rw [if_pos ⟨rfl,Nat.le_refl _,by omega,by omega,hone,fun i hi=>by
   obtain ⟨z,hz⟩:=hint i hi
   rw [Nat.zero_add,hz]; rfl⟩]
end Go.Ab.Sh

set_option maxRecDepth 100000
namespace Go.Ab
open Go Go.Lib Go.Ab.Sh
end Go.Ab

set_option maxRecDepth 100000
namespace Go.Ab
open Go Go.Lib Go.Ab.Sh
end Go.Ab
namespace Go.Ab.Sh
open Go Go.Ab Go.Lib
variable {mW:Mem} {v:Value} {ws:List Str} {b2 b5:Nat} {m:Mem} {q:Q_n}
end Go.Ab.Sh

set_option maxRecDepth 100000
namespace Go.Ab
open Go Go.Lib Go.Ab.Sh
structure GoodR (r:Rl):Prop where
 permit:r.permit=true
 proto:r.proto=-1∨(0 ≤ r.proto∧r.proto ≤ 255)
 sb:0 ≤ r.sb∧r.sb ≤ 32
 sa:r.sa < 4294967296
 sm:r.sa % 2 ^ (32 - r.sb.toNat)=0
 db:0 ≤ r.db∧r.db ≤ 32
 da:r.da < 4294967296
 dm:r.da % 2 ^ (32 - r.db.toNat)=0
 s1:r.sl ≤ r.sh
 s2:r.sh ≤ 65535
 d1:r.dl ≤ r.dh
 d2:r.dh ≤ 65535
theorem GoodR.ok {r:Rl} (h:GoodR r):RlOk r where
 proto:=by
  rcases h.proto with e | ⟨e1,e2⟩
  ·rw [e]; decide
  ·obtain ⟨n,hn⟩:=Int.eq_ofNat_of_zero_le e1
   rw [hn]; exact X5a (by omega)
 sa:=h.sa
 sb:=by
  obtain ⟨n,hn⟩:=Int.eq_ofNat_of_zero_le h.sb.1
  have:=h.sb.2
  rw [hn]; exact X5a (by omega)
 da:=h.da
 db:=by
  obtain ⟨n,hn⟩:=Int.eq_ofNat_of_zero_le h.db.1
  have:=h.db.2
  rw [hn]; exact X5a (by omega)
 sl:=by have:=h.s1; have:=h.s2; omega
 sh:=by have:=h.s2; omega
 dl:=by have:=h.d1; have:=h.d2; omega
 dh:=by have:=h.d2; omega
end Go.Ab

set_option maxRecDepth 100000
namespace Go.Ab
open Go
inductive Lf where | b | i (k:IntKind) | s
inductive Fits:List Lf→List Value→Prop where
 | nil:Fits [] []
 | b {L:List Lf} {cs:List Value} (x:Bool) (h:Fits L cs):Fits (.b :: L) (.bool x :: cs)
 | i {L:List Lf} {cs:List Value} (k:IntKind) (z:Int) (w:(Lit.int k z).wf=true) (h:Fits L cs):Fits (.i k :: L) (.int k z :: cs)
 | s {L:List Lf} {cs:List Value} (x:ByteArray) (h:Fits L cs):Fits (.s :: L) (.string x :: cs)
theorem Fits.app {L M:List Lf} {a b:List Value} (h:Fits L a) (k:Fits M b):Fits (L ++ M) (a ++ b):=by
 induction h with
 | nil=>exact k
 | b x _ ih=>exact .b x ih
 | i k z w _ ih=>exact .i k z w ih
 | s x _ ih=>exact .s x ih
def strs:List Value→Nat
 | []=>0
 | .string x :: r=>x.size + strs r
 | _ :: r=>strs r
theorem Xn6:∀ a b:List Value,strs (a ++ b)=strs a + strs b
 | [],b=>by simp [strs]
 | v :: a,b=>by
  have ih:=Xn6 a b
  cases v <;> simp only [List.cons_append,strs,ih] <;> omega
def layF (P:Program) (g:TypeId→Option (List Lf)):List Field→Nat→Option (List Lf)
 | [],_=>some []
 | f :: fs,o=>if f.offset=o then (match g f.type with
  | none=>none
  | some L=>if P.cellsOf f.type=L.length then (match layF P g fs (o + L.length) with | none=>none | some R=>some (L ++ R)) else none) else none
def layT (P:Program):Nat→TypeId→Option (List Lf)
 | 0,_=>none
 | n + 1,t=>match P.underlying t with
  | some .bool=>some [.b]
  | some (.int k)=>some [.i k]
  | some .string=>some [.s]
  | some (.struct fs)=>(match layF P (layT P n) fs.toList 0 with
   | some L=>if P.cellsOf t=L.length then some L else none
   | none=>none)
  | _=>none
section
variable {H:Type} {enc:TypeId × Value→H} {P:Program}
structure Bulk (H:Type) where
 one:DataW H→Nat
 all:List (DataW H)→Nat
 str:∀ l,one (.lit (.string l))=l.length + 1
 agg:∀ l,one (.agg l)=all l + 1
 cons:∀ d l,all (d :: l)=one d + all l
def Reads (B:Bulk H) (enc:TypeId × Value→H) (P:Program) (fuel:Nat) (t:TypeId) (L:List Lf) (cs:List Value) (d:DataW H) (ps:List MemPlace):Prop:=
 Fits L cs∧ps=[]∧strs cs ≤ B.one d∧∀ (w:World) (base:Nat) (sp:Nat→Bool) (held:Bool),DataW.trod enc P w base sp held fuel t cs=some (d,[])
theorem Xfn (B:Bulk H) {w:World} {base:Nat} {sp:Nat→Bool} {held:Bool} {fuel:Nat} {g:TypeId→Option (List Lf)}
  (hg:∀ t L,g t=some L→∀ cs d ps,DataW.trod enc P w base sp held fuel t cs=some (d,ps)→Reads B enc P fuel t L cs d ps) (cs:List Value):∀ (fs:List Field) (o:Nat) (R:List Lf) (xs:List (DataW H × List MemPlace)),
  layF P g fs o=some R→o + R.length ≤ cs.length→(fs.mapM fun f=>DataW.trod enc P w base sp held fuel f.type ((cs.drop f.offset).take (P.cellsOf f.type)))=some xs →
  Fits R ((cs.drop o).take R.length)∧xs.flatMap (·.2)=[]∧strs ((cs.drop o).take R.length) ≤ B.all (xs.map (·.1)) ∧
   ∀ (w:World) (base:Nat) (sp:Nat→Bool) (held:Bool),(fs.mapM fun f=>DataW.trod enc P w base sp held fuel f.type ((cs.drop f.offset).take (P.cellsOf f.type)))=some xs
 | [],o,R,xs,hl,ho,hx=>by
  simp only [layF,Option.some.injEq] at hl
  subst hl
  simp only [List.mapM_nil,pure,Option.some.injEq] at hx
  subst hx
  exact ⟨.nil,rfl,Nat.zero_le _,fun _ _ _ _=>rfl⟩
 | f :: fs,o,R,xs,hl,ho,hx=>by
  unfold layF at hl
  split at hl
  ·rename_i hof
   cases hgt:g f.type with
   | none=>rw [hgt] at hl; cases hl
   | some L =>
    rw [hgt] at hl
    simp only at hl
    split at hl
    ·rename_i hc
     cases hR:layF P g fs (o + L.length) with
     | none=>rw [hR] at hl; cases hl
     | some R' =>
      rw [hR] at hl
      simp only [Option.some.injEq] at hl
      subst hl
      rw [List.mapM_cons] at hx
      cases h1:DataW.trod enc P w base sp held fuel f.type ((cs.drop f.offset).take (P.cellsOf f.type)) with
      | none=>rw [h1] at hx; cases hx
      | some y =>
       cases h2:(fs.mapM fun f=>DataW.trod enc P w base sp held fuel f.type ((cs.drop f.offset).take (P.cellsOf f.type))) with
       | none=>rw [h1,h2] at hx; cases hx
       | some ys =>
        rw [h1,h2] at hx
        have hx:some (y :: ys)=some xs:=hx
        cases hx
        obtain ⟨d,ps⟩:=y
        have hof:=hof
        rw [hof,hc] at h1
        obtain ⟨a1,a2,a3,a4⟩:=hg f.type L hgt _ d ps h1
        rw [List.length_append] at ho
        obtain ⟨b1,b2,b3,b4⟩:=Xfn B hg cs fs (o + L.length) R' ys hR (by omega) h2
        subst a2
        have e:(cs.drop o).take (L ++ R').length=(cs.drop o).take L.length ++ (cs.drop (o + L.length)).take R'.length:=by
         rw [List.length_append,List.take_add,List.drop_drop]
        rw [e]
        refine ⟨a1.app b1,?_,?_,?_⟩
        ·simpa using b2
        ·rw [Xn6,List.map_cons,B.cons]
         show _ ≤ B.one d + _
         omega
        ·intro w base sp held
         rw [List.mapM_cons,hof,hc,a4 w base sp held,b4 w base sp held]
         rfl
    ·cases hl
  ·cases hl
theorem lay_reads (B:Bulk H) {w:World} {base:Nat} {sp:Nat→Bool} {held:Bool}:∀ (n:Nat) (t:TypeId) (L:List Lf),layT P n t=some L→∀ (fuel:Nat) (cs:List Value) (d:DataW H) (ps:List MemPlace),DataW.trod enc P w base sp held fuel t cs=some (d,ps)→Reads B enc P fuel t L cs d ps
 | 0,t,L,hl,fuel,cs,d,ps,h=>by cases hl
 | n + 1,t,L,hl,0,cs,d,ps,h=>by cases h
 | n + 1,t,L,hl,fuel + 1,cs,d,ps,h=>by
  unfold layT at hl
  cases hu:P.underlying t with
  | none=>rw [hu] at hl; cases hl
  | some T =>
   rw [hu] at hl
   cases T <;> simp only at hl
   case bool =>
    cases hl
    unfold DataW.trod at h
    rw [hu] at h
    match cs,h with
    | [.bool x],h =>
     simp only [Option.some.injEq,Prod.mk.injEq] at h
     obtain ⟨rfl,rfl⟩:=h
     exact ⟨.b x .nil,rfl,Nat.zero_le _,fun _ _ _ _=>by unfold DataW.trod; rw [hu]⟩
   case int k =>
    cases hl
    unfold DataW.trod at h
    rw [hu] at h
    match cs,h with
    | [.int k' z],h =>
     simp only at h
     split at h
     ·rename_i hk
      simp only [Option.some.injEq,Prod.mk.injEq] at h
      obtain ⟨rfl,rfl⟩:=h
      obtain ⟨rfl,hw⟩:=hk
      exact ⟨.i k' z hw .nil,rfl,Nat.zero_le _,fun _ _ _ _=>by unfold DataW.trod; rw [hu]; simp [hw]⟩
     ·cases h
   case string =>
    cases hl
    unfold DataW.trod at h
    rw [hu] at h
    match cs,h with
    | [.string x],h =>
     simp only at h
     split at h
     ·rename_i hk
      simp only [Option.some.injEq,Prod.mk.injEq] at h
      obtain ⟨rfl,rfl⟩:=h
      refine ⟨.s x .nil,rfl,?_,fun _ _ _ _=>by unfold DataW.trod; rw [hu]; simp only; rw [if_pos hk]⟩
      rw [B.str,Array.length_toList]
      show x.size + 0 ≤ x.size + 1
      omega
     ·cases h
   case struct fs =>
    cases hR:layF P (layT P n) fs.toList 0 with
    | none=>rw [hR] at hl; cases hl
    | some R =>
     rw [hR] at hl
     simp only at hl
     split at hl
     ·rename_i hc
      obtain rfl:R=L:=Option.some.inj hl
      unfold DataW.trod at h
      rw [hu] at h
      simp only at h
      split at h
      ·rename_i hlen
       cases hx:(fs.toList.mapM fun f=>DataW.trod enc P w base sp held fuel f.type ((cs.drop f.offset).take (P.cellsOf f.type))) with
       | none=>rw [hx] at h; cases h
       | some xs =>
        rw [hx] at h
        simp only [Option.map_some,Option.some.injEq,Prod.mk.injEq] at h
        obtain ⟨rfl,rfl⟩:=h
        obtain ⟨a1,a2,a3,a4⟩:=Xfn B (fun t L ht cs d ps hh=>lay_reads B n t L ht fuel cs d ps hh) cs fs.toList 0 R xs hR (by omega) hx
        have e:(cs.drop 0).take R.length=cs:=by rw [List.drop_zero,← hc,← hlen,List.take_length]
        rw [e] at a1 a3
        refine ⟨a1,a2,by rw [B.agg]; omega,fun w' base' sp' held'=>?_⟩
        unfold DataW.trod
        rw [hu]
        simp only
        rw [if_pos hlen,a4 w' base' sp' held']
        simp only [Option.map_some,a2]
      ·cases h
     ·cases hl
   all_goals cases hl
theorem Xiw (B:Bulk H) {w:World} {base:Nat} {sp:Nat→Bool} {held:Bool} {n:Nat} {t:TypeId} {L:List Lf} (hl:layT P n t=some L) {v:Value} {d:DataW H} {ps:List MemPlace} (h:DataW.Trod enc P w base sp held t v d ps) :
  Fits L v.cells.toList∧ps=[]∧strs v.cells.toList ≤ B.one d∧∀ (w:World) (base:Nat) (sp:Nat→Bool) (held:Bool),DataW.Trod enc P w base sp held t v d []:=by
 obtain ⟨fuel,hf⟩:=h
 obtain ⟨a,b,c,e⟩:=lay_reads B n t L hl fuel _ d ps hf
 exact ⟨a,b,c,fun w base sp held=>⟨fuel,e w base sp held⟩⟩
end
end Go.Ab

set_option maxRecDepth 100000
namespace Go.Ab.Sh
open Go Go.Ab Go.Lib
theorem layS:layT Go.Proofs.Tryz.prog 1 Q1=some [.s]:=by kernel_rfl
theorem Xkc {P:Program} {W:World} {g:Tab} (hT:X1d P W g) {f:FuncId} {fn:Func} {c:Code} (hf:P.funcs[f]?=some fn) (hb:fn.body=some c) (hn:(fn.name == "runtime.NumGoroutine")=false) (args:List Value) (ha:∀ φ,VRels φ args args) {v:Value} {m':Mem}
  (hg:g f args mem0=some (v,m')) (hpl:∀ φ cv,VRel φ v cv→cv=v):Calls P f args.toArray W fun e w'=>e=.returned v∧RowKit.Below W.heap.size W w':=by
 have h:=hT (fun _=>none) mem0 W f args args v m' (Xt9 W) (RowKit.Below.refl _ _) (ha _) hg
 rcases h with ⟨_,h⟩ | ⟨cv,w',h,_⟩
 ·refine h.mono fun e w' he=>?_
  obtain ⟨cv,rfl,φ',_,h2,h3⟩:=he
  rw [hpl φ' cv h2]
  exact ⟨rfl,⟨h3.os,h3.tape,h3.output,h3.size,fun k hk=>h3.frame k hk fun b pl hh=>nomatch hh⟩⟩
 ·have:=enters hf hb hn args.toArray W
  change (callFunc f args.toArray).run P W=_ at h
  rw [this] at h
  cases h
theorem c_works (d:Nat) (m:Mem):TA d Q20 [] m=some (.bool true,m):=by
 refine Xes (o:=Qlq) (by kernel_rfl) ?_ d
 show Mw.ov Q20 [] m=_
 unfold Memo.ov
 have h1:Nat.beq Q20 Mw.f=true:=Nat.beq_refl _
 have h2:Xep (vbeq 9) [] Mw.args=true:=rfl
 have h3:Mw.nextOk m=true:=rfl
 have h4:holds m Mw.old=true:=rfl
 rw [h1,h2,h3,h4]
 rfl
theorem Xr7 (φ:Pmap) (s t:Str):VRels φ [sv s,sv t] [sv s,sv t]:=.cons _ _ _ _ (.string _) (.cons _ _ _ _ (.string _) .nil)
theorem Xk8 {W:World} (hT:∀ n,X1d Go.Proofs.Tryz.prog W (TA n)) {fn:Func} {c:Code} (hf:Go.Proofs.Tryz.prog.funcs[Q3u]?=some fn) (hb:fn.body=some c) (hn:(fn.name == "runtime.NumGoroutine")=false)
  (s t:Str) (hs:s.length ≤ 4194304) (ht:t.length ≤ 4194304) :
  Calls Go.Proofs.Tryz.prog Q3u #[sv s,sv t] W fun e w'=>e=.returned (.bool true)∧RowKit.Below W.heap.size W w':=
 Xkc (hT 11) hf hb hn [sv s,sv t] (fun φ=>Xr7 φ s t) (c_FlatWhere Xsy (fun d m=>c_works (d + 1) m) s t hs ht 0 mem0) (fun φ cv h=>Xoo h)
end Go.Ab.Sh

set_option maxRecDepth 100000
namespace Go.Ab
open Go Go.Sort Go.Proofs
variable {P:Program} {W0:World}
theorem Xrk {B0:Nat} {φ:Pmap} {m:Mem} {w w':World} {b:Nat} {pl:Pl} {cs:List Value} {ver fro:Nat} {ty:Option Nat} (hR:Rel B0 φ m w) (hb:φ b=some pl) (hg:m.get b=some (.cells cs ver fro false ty))
  {C C':Array Value} {ety:TypeId} {lo hi:Nat} (h1:w.heap[pl.blk]?=some (.cells C ety (lo,hi))) (h2:w'.heap[pl.blk]?=some (.cells C' ety (lo,hi))) (hs:C'.size=C.size)
  (hsz:w.heap.size ≤ w'.heap.size) (hold:∀ B,B < w.heap.size→B ≠ pl.blk→w'.heap[B]?=w.heap[B]?) (ho:w'.os=w.os) (ht:w'.tape=w.tape) (hout:w'.output=w.output) :
  After B0 φ m w (.tuple ⟨[]⟩) (m.put b (.cells [] (ver + 1) fro false none)) (.tuple ⟨[]⟩) w':=by
 obtain ⟨hlt,o,e0,hrel⟩:=hR.blocks b pl hb
 rw [hg] at e0
 cases e0
 obtain ⟨r1,r2,r3,C0,ty0,lo0,hi0,r4,r5,r6,r7,r8⟩:=hrel
 rw [h1] at r4
 cases r4
 have e2:(m.put b (.cells [] (ver + 1) fro false none)).next=m.next:=Mem.next_put _ _ _
 let pl':Pl:={ blk:=pl.blk,lo:=0,cb:=pl.cb,size:=pl.size,ver:=pl.ver + 1,ro:=false }
 let φ':Pmap:=fun k=>if k=b then some pl' else φ k
 have eb:φ' b=some pl':=if_pos rfl
 have en:∀ k,k ≠ b→φ' k=φ k:=fun k hk=>if_neg hk
 have le:φ.le φ':=fun k q hq=>by
  by_cases e:k=b
  ·subst e
   rw [hb] at hq
   cases hq
   exact ⟨pl',eb,.inr (Nat.lt_succ_self _)⟩
  ·exact ⟨q,by rw [en k e]; exact hq,.inl rfl⟩
 have back:∀ k q,φ' k=some q→∃ q0,φ k=some q0∧q0.blk=q.blk∧q0.ro=q.ro:=fun k q hq=>by
  by_cases e:k=b
  ·subst e
   rw [eb] at hq
   cases hq
   exact ⟨pl,hb,rfl,r2⟩
  ·rw [en k e] at hq
   exact ⟨q,hq,rfl,rfl⟩
 refine ⟨φ',{ blocks:=fun k q hq=>?_,inj:=fun k k2 q q2 hq hq2 hro hbl=>?_,base:=fun k q hq hro=>?_,size:=Nat.le_trans hR.size hsz,fresh:=fun k hk=>?_ },.tuple _ _ .nil,{
  le:=le
  next:=Nat.le_of_eq e2.symm
  low:=by rw [Mem.low_put]; exact Nat.min_le_left _ _
  same:=fun k hk hn=>?_
  os:=ho
  tape:=ht
  output:=hout
  size:=hsz
  frame:=fun B hB h=>hold B hB fun e=>h b pl hb r2 e.symm
  img:=fun k q hq hro=>by
   obtain ⟨q0,a1,a2,a3⟩:=back k q hq
   exact .inl ⟨k,q0,a1,by rw [a3]; exact hro,a2⟩
  un:=fun k hk hn=>?_ }⟩
 ·by_cases e:k=b
  ·subst e
   rw [eb] at hq
   cases hq
   refine ⟨by rw [e2]; exact hlt,_,by rw [Mem.get_put,if_pos rfl],?_⟩
   refine ⟨by show pl.ver + 1=ver + 1; rw [r1],rfl,Nat.zero_le _,C',ety,lo,hi,h2,hs.trans r5,fun i v _ hi=>(by simp at hi),fun _ i i1 _ i3=>?_,fun t ht=>(by cases ht)⟩
   have:=r7 rfl (i + pl.lo) (by omega) (by omega) (by
    show pl.cb + (i + pl.lo - pl.lo) < pl.size
    have i3:pl.cb + (i - 0) < pl.size:=i3
    rw [Nat.add_sub_cancel]; rw [Nat.sub_zero] at i3; exact i3)
   rw [Nat.add_sub_cancel] at this
   exact this
  ·rw [en k e] at hq
   obtain ⟨k1,o2,k2,k3⟩:=hR.blocks k q hq
   refine ⟨by rw [e2]; exact k1,o2,by rw [Mem.get_put,if_neg (Ne.symm e)]; exact k2,?_⟩
   refine BRel.of_heap (hold q.blk k3.there fun hbk=>e (hR.inj b k pl q hb hq r2 hbk.symm).symm) (k3.mono le)
 ·obtain ⟨a0,a1,a2,a3⟩:=back k q hq
  obtain ⟨b0,b1,b2,b3⟩:=back k2 q2 hq2
  exact hR.inj k k2 a0 b0 a1 b1 (by rw [a3]; exact hro) (by rw [a2,b2]; exact hbl)
 ·obtain ⟨a0,a1,a2,a3⟩:=back k q hq
  rw [← a2]
  exact hR.base k a0 a1 (by rw [a3]; exact hro)
 ·rw [e2] at hk
  rw [Mem.get_put,if_neg (by omega)]
  exact hR.fresh k hk
 ·rw [Mem.low_put] at hk
  have:k ≠ b:=by omega
  exact ⟨by rw [Mem.get_put,if_neg (Ne.symm this)],en k this⟩
 ·have:k ≠ b:=fun e=>by rw [e,hb] at hn; cases hn
  exact ⟨by rw [en k this]; exact hn,by rw [Mem.get_put,if_neg (Ne.symm this)]⟩
theorem Xtw {o:Option Value} (h:isInt o=true):o=some (.int .i64 (intOf o)):=by
 cases o with
 | none=>cases h
 | some v =>
  cases v with
  | int k n=>cases k <;> first | rfl | cases h
  | _=>cases h
noncomputable def cmpZ (x y:Int):Int:=if x < y then -1 else if y < x then 1 else 0
theorem X5v (x y:Int):(cmpZ x y < 0) ↔ x < y:=by
 unfold cmpZ
 split
 ·constructor <;> intro _ <;> first | assumption | decide
 ·split
  ·constructor
   ·intro h; exact absurd h (by decide)
   ·intro h; contradiction
  ·constructor
   ·intro h; exact absurd h (by decide)
   ·intro h; contradiction
theorem Xww {α:Type} (k:α→Int):SWO (ltOf fun x y=>cmpZ (k x) (k y)) where
 irrefl:=fun x=>decide_eq_false (by rw [X5v]; omega)
 trans:=fun x y z h1 h2=>by
  have h1:=(X5v _ _).mp (of_decide_eq_true h1)
  have h2:=(X5v _ _).mp (of_decide_eq_true h2)
  exact decide_eq_true ((X5v _ _).mpr (by omega))
 ntrans:=fun x y z h1 h2=>by
  have h1:=mt (X5v _ _).mpr (of_decide_eq_false h1)
  have h2:=mt (X5v _ _).mpr (of_decide_eq_false h2)
  exact decide_eq_false (mt (X5v _ _).mp (by omega))
theorem Xpn {f0 g0:FuncId} {fn:Func} {bd:Code} (hf:P.funcs[f0]?=some fn) (hb:fn.body=some bd) (hn:(fn.name == "runtime.NumGoroutine")=false)
  (hnone:∀ (p:Option Addr) (cap:Nat) (fv:Value) (w:World),Calls P f0 #[.slice p 0 cap,fv] w fun e w'=>e=.returned (.tuple #[])∧w'=w)
  (hall:∀ (enc:Nat→List Value) (hk:∀ x,(enc x).length=15) (h1:∀ x,∀ v ∈ enc x,v.oneCell'=true) (cf:Nat→Nat→Int) (hO:SWO (ltOf cf)) (blk off cap:Nat) (d:Array Nat) (w:World) (hcmp:CmpLays P g0 #[] enc 15 cf blk off d.size w) (hH:HoldsK enc 15 w blk off d) (hblk:blk < w.heap.size) (hsz:d.size < 4611686018427387904),
   Calls P f0 #[.slice (some ⟨blk,off,none⟩) d.size cap,.func (.func g0) #[] #[]] w fun e w'=>e=.returned (.tuple #[])∧∃ (n:Nat) (dk:Array Nat) (os:Array Obj),w'=sortWorldK enc 15 w blk off n dk os)
  (hcl:∀ (a b:List Value) (x y:Int) (w:World),a.length=15→b.length=15→a[0]?=some (.int .i64 x)→b[0]?=some (.int .i64 y)→Calls P g0 #[.agg a.toArray,.agg b.toArray] w fun e w'=>e=.returned (.int .i64 (cmpZ x y))∧∃ q os',w'=grow (w.drewN q) os'):X14 P W0 (Xhx f0 g0):=by
 intro φ m w f args cargs v m' hR hB hA hg
 unfold Xhx at hg
 dsimp only at hg
 split at hg
 ·rename_i s n t g a c
  split at hg
  ·rename_i hc
   obtain ⟨rfl,rfl,ha,hc⟩:=hc
   cases hA with
   | cons _ v1 _ l1 hv1 hl1 =>
   cases hl1 with
   | cons _ v2 _ l2 hv2 hl2 =>
   cases hl2
   cases hv2 with
   | func _ _ _ a' c' ra rc =>
   rw [ha] at ra
   rw [hc] at rc
   have ea:a'=#[]:=by cases a'; cases ra; rfl
   have ec:c'=#[]:=by cases c'; cases rc; rfl
   subst ea ec
   cases n with
   | zero =>
    simp only [Option.some.injEq,Prod.mk.injEq] at hg
    obtain ⟨rfl,rfl⟩:=hg
    cases hv1 with
    | nilSlice=>exact X2q (enters hf hb hn _ _) (hnone none 0 _ w) hR (.tuple _ _ .nil)
    | slice b o es _ _ B O cap pl h hes hn' hr hp=>exact X2q (enters hf hb hn _ _) (hnone _ cap _ w) hR (.tuple _ _ .nil)
   | succ n =>
    cases hv1 with
    | slice b o es _ _ B O cap pl hpb hes hn' hr hp =>
    simp only at hg
    split at hg
    ·rename_i h15
     obtain ⟨h15,hbig⟩:=h15
     have h15:es=15:=Option.some.inj h15
     subst h15
     split at hg
     ·rename_i cs ver fro ro ty hgb
      split at hg
      ·rename_i hh
       obtain ⟨rfl,g1,g2,g3,g4,g5⟩:=hh
       simp only [Option.some.injEq,Prod.mk.injEq] at hg
       obtain ⟨rfl,rfl⟩:=hg
       obtain ⟨hlt,o2,e0,hrel⟩:=hR.blocks b pl hpb
       rw [hgb] at e0
       cases e0
       obtain ⟨r1,r2,r3,C,ety,lo,hi,r4,r5,r6,r7,r8⟩:=hrel
       obtain ⟨hp1,_⟩:=hp (by rw [g2,r1])
       have hcap:cap ≠ 0:=by omega
       obtain ⟨rfl,p2,p3,p4⟩:=hp1.resolve_left hcap
       have hCs:O + (n + 1) * 15 ≤ C.size:=by
        have:(n + 1) * 15 ≤ cap * 15:=Nat.mul_le_mul_right _ hn'
        omega
       have cell:∀ j,j < (n + 1) * 15→∃ v cv,cs[o + j]?=some v∧C[O + j]?=some cv∧VRel φ v cv:=fun j hj=>by
        have hj2:o + j < cs.length:=by omega
        obtain ⟨cv,q1,q2⟩:=r6 (o + j) cs[o + j] (by omega) (List.getElem?_eq_getElem hj2)
        refine ⟨cs[o + j],cv,List.getElem?_eq_getElem hj2,?_,q2⟩
        rw [← q1]
        congr 1
        omega
       let enc:Nat→List Value:=fun i=>if i < n + 1 then (C.toList.drop (O + i * 15)).take 15 else List.replicate 15 (.int .i64 0)
       have el:∀ i,i < n + 1→enc i=(C.toList.drop (O + i * 15)).take 15:=fun i hi=>if_pos hi
       have er:∀ i,¬ i < n + 1→enc i=List.replicate 15 (.int .i64 0):=fun i hi=>if_neg hi
       have row:∀ i r,i < n + 1→r < 15→(enc i)[r]?=C[O + (i * 15 + r)]?:=fun i r hi hr=>by
        rw [el i hi,List.getElem?_take,if_pos hr,List.getElem?_drop,Nat.add_assoc,Array.getElem?_toList]
       have hk:∀ x,(enc x).length=15:=fun x=>by
        by_cases hx:x < n + 1
        ·rw [el x hx,List.length_take,List.length_drop,Array.length_toList]
         omega
        ·rw [er x hx,List.length_replicate]
       have h1:∀ x,∀ u ∈ enc x,u.oneCell'=true:=fun x u hu=>by
        by_cases hx:x < n + 1
        ·obtain ⟨r,hr⟩:=List.getElem?_of_mem hu
         have hr15:r < 15:=by
          have:=(List.getElem?_eq_some_iff.mp hr).1
          rw [hk x] at this
          exact this
         rw [row x r hx hr15] at hr
         obtain ⟨u0,cv,q1,q2,q3⟩:=cell (x * 15 + r) (by omega)
         rw [q2] at hr
         cases hr
         exact Xqm q3 (List.all_eq_true.mp g4 u0 (List.mem_of_getElem? q1))
        ·rw [er x hx] at hu
         rw [(List.mem_replicate.mp hu).2]; rfl
       have hz:∀ x,(enc x)[0]?=some (.int .i64 (intOf (enc x)[0]?)):=fun x=>by
        by_cases hx:x < n + 1
        ·obtain ⟨u0,cv,q1,q2,q3⟩:=cell (x * 15 + 0) (by omega)
         have q4:=Xtw (g5 x hx)
         rw [Nat.add_zero] at q1
         rw [q4] at q1
         cases q1
         cases q3
         rw [row x 0 hx (by omega),q2]; rfl
        ·rw [er x hx]; rfl
       let cf:Nat→Nat→Int:=fun x y=>cmpZ (intOf (enc x)[0]?) (intOf (enc y)[0]?)
       have hcmp:CmpLays P g #[] enc 15 cf pl.blk O (Array.range (n + 1)).size w:=fun q os dk _ x y=>hcl (enc x) (enc y) _ _ _ (hk x) (hk y) (hz x) (hz y)
       have hH:HoldsK enc 15 w pl.blk O (Array.range (n + 1)):=fun j hj=>by
        rw [size_flatK,Array.size_range] at hj
        have hdv:j / 15 < n + 1:=by omega
        obtain ⟨u0,cv,q1,q2,q3⟩:=cell j hj
        constructor
        ·have e1:(flatK enc 15 (Array.range (n + 1)))[j]! = cv:=by
          rw [get_flatK _ _ _ _ (by rw [Array.size_range]; exact hj)]
          have e2:(Array.range (n + 1))[j / 15]! = j / 15:=by simp [hdv]
          rw [e2]
          have e3:=row (j / 15) (j % 15) hdv (Nat.mod_lt _ (by omega))
          rw [show j / 15 * 15 + j % 15=j by omega,q2] at e3
          rw [List.getElem!_eq_getElem?_getD,e3]; rfl
         rw [e1]
         show w.cell? ⟨pl.blk,O + j,none⟩=some cv
         unfold World.cell?
         simp only [r4]
         exact q2
        ·show w.frozen? ⟨pl.blk,O + j,none⟩=false
         unfold World.frozen?
         simp only [r4]
         have:=r7 rfl (o + j) (by omega) (by omega) (by omega)
         rw [show pl.cb + (o + j - pl.lo)=O + j by omega] at this
         by_cases l1:lo ≤ O + j
         ·have l2:¬ O + j < hi:=fun q=>this ⟨l1,q⟩
          simp [l2]
         ·simp [l1]
       have hblk:pl.blk < w.heap.size:=by
        rcases Nat.lt_or_ge pl.blk w.heap.size with q | q
        ·exact q
        ·rw [Array.getElem?_eq_none q] at r4; cases r4
       have hc0:=hall enc hk h1 cf (Xww _) pl.blk O cap (Array.range (n + 1)) w hcmp hH hblk (by rw [Array.size_range]; omega)
       rw [Array.size_range] at hc0
       refine .inl ⟨enters hf hb hn _ _,hc0.mono fun e w' ⟨he,q,dk,os,hw⟩=>⟨_,he,?_⟩⟩
       subst hw
       have hheap:(sortWorldK enc 15 w pl.blk O q dk os).heap=w.heap.modify pl.blk (onCells (putCells id O (flatK enc 15 dk))) ++ os:=rfl
       refine Xrk (C:=C) (C':=putCells id O (flatK enc 15 dk) C) (ety:=ety) (lo:=lo) (hi:=hi) hR hpb hgb r4 ?_ ?_ ?_ (fun B hB hne=>?_) rfl rfl rfl
       ·rw [hheap,Array.getElem?_append_left (by simpa using hblk),Array.getElem?_modify,if_pos rfl,r4]; rfl
       ·simp [putCells]
       ·rw [hheap]; simp
       ·rw [hheap,Array.getElem?_append_left (by simpa using hB),Array.getElem?_modify,if_neg (Ne.symm hne)]
      ·cases hg
     ·cases hg
    ·cases hg
  ·cases hg
 ·cases hg
end Go.Ab
