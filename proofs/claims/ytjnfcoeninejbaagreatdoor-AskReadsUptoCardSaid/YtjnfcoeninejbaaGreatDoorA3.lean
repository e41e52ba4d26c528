/-
  What the functions of the program answer, at every text and every question. No conditions.
-/
import Derived.Test.YtjnfcoeninejbaaGreatDoorA2
import GoSem.ClaimChange
import Derived.IntWalk
set_option maxRecDepth 100000
set_option linter.unusedSimpArgs false
set_option linter.unusedVariables false
namespace Go.Ab.Sh
open Go Go.Ab Go.Lib
structure TQ (m:Mem) (bV b b1:Nat) (ws:List Str) (q:QN):Prop where
  t:TS m bV b ws
  gq:m.get b1=some (.cells (qC q) 0 0 false tyA)
  n1:b1 < m.next
  e1:b1 ≠ bV
  e2:b1 ≠ b
variable {m:Mem} {bV b b1:Nat} {ws:List Str} {q:QN}
theorem TQ.ld (h:TQ m bV b b1 ws q) {o:Nat} {x:Value} (hx:(qC q)[o]?=some x):X6 false 1 (pt b1 o 0) m=some x:=Xo h.gq hx
theorem TQ.step {m':Mem} {ws':List Str} (h:TQ m bV b b1 ws q) (f:Fr [bV,b] m m') (t:TS m' bV b ws'):TQ m' bV b b1 ws' q:=
  ⟨t,by rw [f.get _ h.n1 (by simp; exact ⟨h.e1,h.e2⟩)]; exact h.gq,Nat.lt_of_lt_of_le h.n1 f.next,h.e1,h.e2⟩
theorem TQ.frn {m':Mem} (h:TQ m bV b b1 ws q) (f:Fr [] m m'):TQ m' bV b b1 ws q:=h.step (f.mono (by simp)) (h.t.frn f)
def Xv (c:Bool) (ws xs:List Str):List Str:=if c=true then ws ++ xs else ws
theorem Xud (h:TQ m bV b b1 ws q) (ha:q.ad < 4294967296) (hw:ws.length ≤ 900) (hT:∀ c,(Xw [32] (Xv c ws [X1j q.ad])).length ≤ 4194304) (d:Nat) :
    ∃ m',Q70 ⟨TA (d + 7),18446744073709551616⟩ (fPut bV) (pt b1 0 0) (pt bV 0 0) m=some (txtV (Xw [32] (Xv (decide (q.kind=7)) ws [X1j q.ad])) q,m')∧Fr [bV,b] m m':=by
  have x0:=h.ld (o:=0 + 0) (x:=.int .u8 (q.kind:Int)) rfl
  have x21:=h.ld (o:=0 + 21) (x:=.int .u32 (q.ad:Int)) rfl
  have ct:TA (d + 7) Q5v [.int .u32 (q.ad:Int)] m=_:=c_addrText q.ad ha (d + 6) m
  have hk:decide ((q.kind:Int)=7)=decide (q.kind=7):=by
    by_cases e:q.kind=7
    . rw [decide_eq_true e,decide_eq_true (by omega)]
    . rw [decide_eq_false e,decide_eq_false (by omega)]
  obtain ⟨m1,m2,p1,p2,p3,p4⟩:=h.t.put1 hw (X1j q.ad) (decide (q.kind=7)) (d + 6)
  have h2:=h.step p3 p4
  obtain ⟨m3,r1,r2⟩:=Xsp h2.t h2.gq h2.n1 (by split <;> (try simp only [List.length_append,List.length_cons,List.length_nil]) <;> omega) (hT (decide (q.kind=7))) d
  refine ⟨m3,?_,p3.trans (r2.mono (by simp))⟩
  unfold Q70
  simp only [Xg,x0,x21,X0,Qp,ct,X5,X1s,Bool.and_true,X18,hk,p1,p2]
  exact r1
theorem Xt0 (h:TQ m bV b b1 ws q) (ha:q.ad < 4294967296) (hw:ws.length ≤ 800) (hT:∀ c c',(Xw [32] (Xv c' (Xv c ws [vrfW,q.vrf]) [X1j q.ad])).length ≤ 4194304) (d:Nat) :
    ∃ m',Qdw ⟨TA (d + 7),18446744073709551616⟩ (fPut bV) (pt b1 0 0) (pt bV 0 0) m=some (txtV (Xw [32] (Xv (decide (q.kind=7)) (Xv (decide ((q.kind=5∨q.kind=6)∧q.vrf ≠ [])) ws [vrfW,q.vrf]) [X1j q.ad])) q,m')∧Fr [bV,b] m m':=by
  have x0:=h.ld (o:=0 + 0) (x:=.int .u8 (q.kind:Int)) rfl
  have x3:=h.ld (o:=0 + 3) (x:=sv q.vrf) rfl
  have ez:Value.string ⟨#[]⟩=sv []:=rfl
  have ev:Value.string ⟨#[118,114,102]⟩=sv vrfW:=rfl
  have go:∀ c:Bool,∃ m1 m2 m',Xc Q4 [(.string ⟨#[]⟩)] 1 2 [(0,sv vrfW),(1,sv q.vrf)] m=some (.slice (some ⟨m.next,0,some 1⟩) 2 1,m1)∧Xi (TA (d + 7)) (fPut bV) [.bool c,.slice (some ⟨m.next,0,some 1⟩) 2 1] m1=some (.tuple ⟨[]⟩,m2) ∧
      Q70 ⟨TA (d + 7),18446744073709551616⟩ (fPut bV) (pt b1 0 0) (pt bV 0 0) m2=some (txtV (Xw [32] (Xv (decide (q.kind=7)) (Xv c ws [vrfW,q.vrf]) [X1j q.ad])) q,m')∧Fr [bV,b] m m':=by
    intro c
    obtain ⟨m1,m2,p1,p2,p3,p4⟩:=h.t.put2 (by omega) vrfW q.vrf c (d + 6)
    have h2:=h.step p3 p4
    obtain ⟨m3,r1,r2⟩:=Xud h2 ha (by split <;> (try simp only [List.length_append,List.length_cons,List.length_nil]) <;> omega) (hT c) d
    exact ⟨m1,m2,m3,p1,p2,r1,p3.trans r2⟩
  unfold Qdw
  simp only [Xg,x0,x3,X0,Qp,X8,ez,Qf6,ev]
  by_cases k5:q.kind=5
  . obtain ⟨m1,m2,m3,p1,p2,p3,p4⟩:=go (decide (q.vrf ≠ []))
    rw [if_pos (by omega)]
    have e:decide ((q.kind=5∨q.kind=6)∧q.vrf ≠ [])=decide (q.vrf ≠ []):=by simp [k5]
    rw [e]
    refine ⟨m3,?_,p4⟩
    have p1:Xc Q4 [sv []] 1 2 [(0,sv vrfW),(1,sv q.vrf)] m=_:=p1
    rw [p1,X5,p2,X5]
    exact p3
  rw [if_neg (by omega)]
  by_cases k6:q.kind=6
  . obtain ⟨m1,m2,m3,p1,p2,p3,p4⟩:=go (decide (q.vrf ≠ []))
    rw [if_pos (by omega)]
    have e:decide ((q.kind=5∨q.kind=6)∧q.vrf ≠ [])=decide (q.vrf ≠ []):=by simp [k6]
    rw [e]
    refine ⟨m3,?_,p4⟩
    have p1:Xc Q4 [sv []] 1 2 [(0,sv vrfW),(1,sv q.vrf)] m=_:=p1
    rw [p1,X5,p2,X5]
    exact p3
  . obtain ⟨m1,m2,m3,p1,p2,p3,p4⟩:=go false
    rw [if_neg (by omega)]
    have e:decide ((q.kind=5∨q.kind=6)∧q.vrf ≠ [])=false:=by simp [k5,k6]
    rw [e]
    refine ⟨m3,?_,p4⟩
    have p1:Xc Q4 [sv []] 1 2 [(0,sv vrfW),(1,sv q.vrf)] m=_:=p1
    rw [p1,X5,p2,X5]
    exact p3
end Go.Ab.Sh

set_option maxRecDepth 100000
set_option linter.unusedSimpArgs false
set_option linter.unusedVariables false
namespace Go.Ab.Sh
open Go Go.Ab Go.Lib
variable {m:Mem} {bV b b1:Nat} {ws:List Str} {q:QN}
theorem Xou {k n:Nat}:decide ((k:Int)=(n:Int))=decide (k=n):=by
  by_cases e:k=n
  . rw [decide_eq_true e,decide_eq_true (by omega)]
  . rw [decide_eq_false e,decide_eq_false (by omega)]
theorem Xc9 {k n:Nat}:decide ((k:Int) < (n:Int))=decide (k < n):=by
  by_cases e:k < n
  . rw [decide_eq_true e,decide_eq_true (by omega)]
  . rw [decide_eq_false e,decide_eq_false (by omega)]
theorem X2g (c:Bool) (ws xs:List Str):(Xv c ws xs).length ≤ ws.length + xs.length:=by
  unfold Xv
  split <;> simp
def w11 (q:QN) (ws:List Str):List Str:=Xv (decide (q.kind=7)) (Xv (decide ((q.kind=5∨q.kind=6)∧q.vrf ≠ [])) ws [vrfW,q.vrf]) [X1j q.ad]
def w10 (q:QN) (ws:List Str):List Str:=w11 q (Xv (decide (q.kind=4)) ws [itoa q.hops,X2j q.a q.b q.p q.m q.n])
def Fit (q:QN) (ws:List Str):Prop:=∀ c1 c2 c3,(Xw [32] (Xv c3 (Xv c2 (Xv c1 ws [itoa q.hops,X2j q.a q.b q.p q.m q.n]) [vrfW,q.vrf]) [X1j q.ad])).length ≤ 4194304
theorem Xqe (h:TQ m bV b b1 ws q) (hq:QOk q) (hw:ws.length ≤ 700) (hT:Fit q ws) (d:Nat) :
    ∃ m',Qbp ⟨TA (d + 7),18446744073709551616⟩ (fPut bV) (pt b1 0 0) (pt bV 0 0) m=some (txtV (Xw [32] (w10 q ws)) q,m')∧Fr [bV,b] m m':=by
  have x0:=h.ld (o:=0 + 0) (x:=.int .u8 (q.kind:Int)) rfl
  have x20:=h.ld (o:=0 + 20) (x:=I q.hops) rfl
  have x15:X6 true 5 (pt b1 (0 + 15) 0) m=some (hdr q.a q.b q.p q.m q.n):=Xk h.gq (by show 0 + 15 + 5 ≤ 22; omega) rfl
  have ci:TA (d + 7) Qi [I q.hops] m=_:=c_Itoa q.hops hq.hops (d + 7) m
  have ch:TA (d + 7) Q6v [hdr q.a q.b q.p q.m q.n] m=_:=c_headerText hq.hb (d + 4) m
  have hk:decide ((q.kind:Int)=4)=decide (q.kind=4):=Xou (n:=4)
  obtain ⟨m1,m2,p1,p2,p3,p4⟩:=h.t.put2 (by omega) (itoa q.hops) (X2j q.a q.b q.p q.m q.n) (decide (q.kind=4)) (d + 6)
  have h2:=h.step p3 p4
  have hl:=X2g (decide (q.kind=4)) ws [itoa q.hops,X2j q.a q.b q.p q.m q.n]
  obtain ⟨m3,r1,r2⟩:=Xt0 (ws:=Xv (decide (q.kind=4)) ws [itoa q.hops,X2j q.a q.b q.p q.m q.n]) h2 hq.ad (by simp at hl; omega) (hT (decide (q.kind=4))) d
  refine ⟨m3,?_,p3.trans r2⟩
  unfold Qbp
  simp only [Xg,x0,x20,x15,X0,Qp,ci,X5,X1s,X8b,Bool.and_true,X18,ch,hk,p1,p2]
  exact r1
end Go.Ab.Sh

set_option maxRecDepth 100000
set_option linter.unusedSimpArgs false
set_option linter.unusedVariables false
namespace Go.Ab.Sh
open Go Go.Ab Go.Lib
theorem Xkt (a b:Int) (mm:Mem):again (pur (some (Xz a b)) mm) (Xz a b)=true:=by
  show vsame 8 (Xz a b) (Xz a b)=true
  simp [vsame,vsame.vsames]
theorem Qmw (a b c e:Nat):bin .neq false true (.struct [(0,1,false,.int),(1,1,false,.int)]) (Xz a b) (Xz c e)=some (.bool (decide (a ≠ c∨b ≠ e))):=by
  rw [X1n]
  show (if (true || Xd5 (Xz a b)) && (false || notNil (Xz a b) (Xz c e)) then match aEq (.struct [(0,1,false,.int),(1,1,false,.int)]) (Xz a b) (Xz c e) with | some b=>some (Value.bool !b) | none=>none else none)=_
  have h:aEq (.struct [(0,1,false,.int),(1,1,false,.int)]) (Xz a b) (Xz c e)=some (decide ((a:Int)=c∧(b:Int)=e∧True)):=Xbg _ _ _ _ _ _
  rw [h]
  by_cases h1:a=c
  . by_cases h2:b=e
    . subst h1 h2
      simp; rfl
    . rw [decide_eq_false (by omega),decide_eq_true (by omega)]; rfl
  . rw [decide_eq_false (by omega),decide_eq_true (by omega)]; rfl
noncomputable abbrev tyRu:Option Nat:=some (2 * Q78 + 1)
structure TH (m:Mem) (bV b b1 bH b8:Nat) (ws:List Str) (q:QN):Prop where
  tq:TQ m bV b b1 ws q
  gH:m.get bH=some (.cells (rlC q.r) 0 0 false tyRu)
  g8:m.get b8=some (.cells [.int .u32 0,.int .u32 65535] 0 0 false (some (2 * Qe + 1)))
  nH:bH < m.next
  n8:b8 < m.next
  h1:bH ≠ bV
  h2:bH ≠ b
  h3:b8 ≠ bV
  h4:b8 ≠ b
variable {m:Mem} {bV b b1 bH b8:Nat} {ws:List Str} {q:QN}
theorem TH.step {m':Mem} {ws':List Str} (h:TH m bV b b1 bH b8 ws q) (f:Fr [bV,b] m m') (t:TS m' bV b ws'):TH m' bV b b1 bH b8 ws' q:=
  ⟨h.tq.step f t,by rw [f.get _ h.nH (by simp; exact ⟨h.h1,h.h2⟩)]; exact h.gH,by rw [f.get _ h.n8 (by simp; exact ⟨h.h3,h.h4⟩)]; exact h.g8,Nat.lt_of_lt_of_le h.nH f.next,Nat.lt_of_lt_of_le h.n8 f.next,h.h1,h.h2,h.h3,h.h4⟩
theorem TH.put (h:TH m bV b b1 bH b8 ws q) (hl:ws.length ≤ 900) (x y:Str) (c:Bool) (d:Nat):∃ m1 m',Xc Q4 [(.string ⟨#[]⟩)] 1 2 [(0,sv x),(1,sv y)] m=some (.slice (some ⟨m.next,0,some 1⟩) 2 1,m1)∧Xi (TA (d + 7)) (fPut bV) [.bool c,.slice (some ⟨m.next,0,some 1⟩) 2 1] m1=some (.tuple ⟨[]⟩,m')∧Fr [bV,b] m m'∧TH m' bV b b1 bH b8 (Xv c ws [x,y]) q:=by
  obtain ⟨m1,m2,p1,p2,p3,p4⟩:=h.tq.t.put2 hl x y c (d + 6)
  exact ⟨m1,m2,p1,p2,p3,h.step p3 p4⟩
def w9 (q:QN) (ws:List Str):List Str:=if q.kind < 4 then Xv (cD q.r) (Xv (cS q.r) (Xv (cP q.r) (Xv (cT q.r) (Xv (cF q.r) ws [fromW,X1c q.r.sa q.r.sb]) [toW,X1c q.r.da q.r.db]) [protoW,itoa q.r.proto]) [sportsW,Xu q.r.sl q.r.sh]) [dportsW,Xu q.r.dl q.r.dh] else ws
theorem Xv4 (h:TQ m bV b b1 ws q) (hq:QOk q) (g8:m.get b8=some (.cells [.int .u32 0,.int .u32 65535] 0 0 false (some (2 * Qe + 1)))) (n8:b8 < m.next) (h3:b8 ≠ bV) (h4:b8 ≠ b) (hw:ws.length ≤ 500) (hT:Fit q (w9 q ws)) (d:Nat) :
    ∃ m',Qel ⟨TA (d + 7),18446744073709551616⟩ (pt b1 0 0) (fPut bV) (pt b8 0 0) (.func (.func Q6f) #[] #[]) (pt bV 0 0) m=some (txtV (Xw [32] (w10 q (w9 q ws))) q,m')∧Fr [bV,b] m m':=by
  have x0:=h.ld (o:=0 + 0) (x:=.int .u8 (q.kind:Int)) rfl
  have x5:X6 true 10 (pt b1 (0 + 5) 0) m=some (rlV q.r):=Xk h.gq (by show 0 + 5 + 10 ≤ 22; omega) rfl
  unfold Qel
  simp only [Xg,x0,X0,Qf,X8]
  by_cases k4:q.kind < 4
  . rw [if_pos (by omega)]
    have hW:w9 q ws=Xv (cD q.r) (Xv (cS q.r) (Xv (cP q.r) (Xv (cT q.r) (Xv (cF q.r) ws [fromW,X1c q.r.sa q.r.sb]) [toW,X1c q.r.da q.r.db]) [protoW,itoa q.r.proto]) [sportsW,Xu q.r.sl q.r.sh]) [dportsW,Xu q.r.dl q.r.dh]:=by unfold w9; rw [if_pos k4]
    rw [hW] at hT ⊢
    obtain ⟨m1,s1,s2,s3,s4⟩:=X1f [] m tyRu Q61 (v:=rlV q.r) (n:=10) rfl rfl rfl
    have s1:X7 10 (pt m.next 0 0) (rlV q.r) (m.push (.cells Q61 0 0 false (some (2 * Q78 + 1))))=some m1:=s1
    have e1:=h.t.nV
    have e2:=h.t.nb
    have H1:TH m1 bV b b1 m.next b8 ws q:=⟨h.frn s2,s4,by rw [s2.get _ n8 (by simp)]; exact g8,by omega,by omega,by omega,by omega,h3,h4⟩
    have L1:=X2g (cF q.r) ws [fromW,X1c q.r.sa q.r.sb]
    have L2:=X2g (cT q.r) (Xv (cF q.r) ws [fromW,X1c q.r.sa q.r.sb]) [toW,X1c q.r.da q.r.db]
    have L3:=X2g (cP q.r) (Xv (cT q.r) (Xv (cF q.r) ws [fromW,X1c q.r.sa q.r.sb]) [toW,X1c q.r.da q.r.db]) [protoW,itoa q.r.proto]
    have L4:=X2g (cS q.r) (Xv (cP q.r) (Xv (cT q.r) (Xv (cF q.r) ws [fromW,X1c q.r.sa q.r.sb]) [toW,X1c q.r.da q.r.db]) [protoW,itoa q.r.proto]) [sportsW,Xu q.r.sl q.r.sh]
    have L5:=X2g (cD q.r) (Xv (cS q.r) (Xv (cP q.r) (Xv (cT q.r) (Xv (cF q.r) ws [fromW,X1c q.r.sa q.r.sb]) [toW,X1c q.r.da q.r.db]) [protoW,itoa q.r.proto]) [sportsW,Xu q.r.sl q.r.sh]) [dportsW,Xu q.r.dl q.r.dh]
    simp only [List.length_cons,List.length_nil] at L1 L2 L3 L4 L5
    obtain ⟨a1,a2,a3,a4,a5,H2⟩:=H1.put (by omega) fromW (X1c q.r.sa q.r.sb) (cF q.r) d
    obtain ⟨c1,c2,c3,c4,c5,H3⟩:=H2.put (by omega) toW (X1c q.r.da q.r.db) (cT q.r) d
    obtain ⟨d1,d2,d3,d4,d5,H4⟩:=H3.put (by omega) protoW (itoa q.r.proto) (cP q.r) d
    obtain ⟨f1,f2,f3,f4,f5,H5⟩:=H4.put (by omega) sportsW (Xu q.r.sl q.r.sh) (cS q.r) d
    obtain ⟨g1,g2,g3,g4,g5,H6⟩:=H5.put (by omega) dportsW (Xu q.r.dl q.r.dh) (cD q.r) d
    obtain ⟨m9,r1,r2⟩:=Xqe H6.tq hq (by omega) hT d
    refine ⟨m9,?_,(((((((s2.mono (by simp)).trans a5).trans c5).trans d5).trans f5).trans g5).trans r2)⟩
    have ld:∀ {mm:Mem} {wz:List Str} (k:TH mm bV b b1 m.next b8 wz q) (o:Nat) (x:Value),(rlC q.r)[o]?=some x→X6 false 1 (pt m.next o 0) mm=some x:=fun k o x hx=>Xo k.gH hx
    have l2:∀ {mm:Mem} {wz:List Str} (k:TH mm bV b b1 m.next b8 wz q) (o:Nat) (x:Value) (cs:List Value),o + 2 ≤ 10→((rlC q.r).drop o).take 2=cs→x=.agg ⟨cs⟩→X6 true 2 (pt m.next o 0) mm=some x:=fun k o x cs ho hc hx=>by rw [hx]; exact Xk k.gH ho hc
    have l8:∀ {mm:Mem} {wz:List Str} (k:TH mm bV b b1 m.next b8 wz q),X6 true 2 (pt b8 0 0) mm=some (Xz ((0:Nat):Int) ((65535:Nat):Int)):=fun k=>Xk k.g8 (by show 2 ≤ 2; omega) rfl
    have u1:=ld H1 (0 + 2 + 1) (I q.r.sb) rfl
    have u2:=l2 H1 (0 + 2) (pfx q.r.sa q.r.sb) _ (by omega) rfl rfl
    have u3:TA (d + 7) Q3n [pfx q.r.sa q.r.sb] m1=_:=c_addrPrefixText q.r.sa hq.r.sa q.r.sb hq.r.sb (d + 5) m1
    have v1:=ld H2 (0 + 4 + 1) (I q.r.db) rfl
    have v2:=l2 H2 (0 + 4) (pfx q.r.da q.r.db) _ (by omega) rfl rfl
    have v3:TA (d + 7) Q3n [pfx q.r.da q.r.db] a2=_:=c_addrPrefixText q.r.da hq.r.da q.r.db hq.r.db (d + 5) a2
    have w1:=ld H3 (0 + 1) (I q.r.proto) rfl
    have w3:TA (d + 7) Qi [I q.r.proto] c2=_:=c_Itoa q.r.proto hq.r.proto (d + 7) c2
    have y1:=l2 H4 (0 + 6) (Xz q.r.sl q.r.sh) _ (by omega) rfl rfl
    have y3:Xi (TA (d + 7)) (.func (.func Q6f) #[] #[]) [Xz q.r.sl q.r.sh] d2=some (sv (Xu q.r.sl q.r.sh),d2):=c_spanA q.r.sl q.r.sh hq.r.sl hq.r.sh (d + 6) d2
    have z1:=l2 H5 (0 + 8) (Xz q.r.dl q.r.dh) _ (by omega) rfl rfl
    have z3:Xi (TA (d + 7)) (.func (.func Q6f) #[] #[]) [Xz q.r.dl q.r.dh] f2=some (sv (Xu q.r.dl q.r.dh),f2):=c_spanA q.r.dl q.r.dh hq.r.dl hq.r.dh (d + 6) f2
    have E1:Value.string ⟨#[102,114,111,109]⟩=sv fromW:=rfl
    have E2:Value.string ⟨#[116,111]⟩=sv toW:=rfl
    have E3:Value.string ⟨#[112,114,111,116,111]⟩=sv protoW:=rfl
    have E4:Value.string ⟨#[115,112,111,114,116,115]⟩=sv sportsW:=rfl
    have E5:Value.string ⟨#[100,112,111,114,116,115]⟩=sv dportsW:=rfl
    have C1:decide (q.r.sb ≠ 0)=cF q.r:=rfl
    have C2:decide (q.r.db ≠ 0)=cT q.r:=rfl
    have C3:decide (q.r.proto ≠ -1)=cP q.r:=rfl
    have C4:decide (q.r.sl ≠ 0∨q.r.sh ≠ 65535)=cS q.r:=rfl
    have C5:decide (q.r.dl ≠ 0∨q.r.dh ≠ 65535)=cD q.r:=rfl
    rw [x5,X0,Xh]
    simp only [s1,Xe,Xg,u1,X0,u2,u3,X5,Q1o,X1s,Bool.and_true,X18,E1,C1,a3,a4,v1,v2,v3,E2,C2,c3,c4,w1,w3,E3,C3,d3,d4,y1,l8 H4,y3,Qmw,Xkt,E4,C4,f3,f4,z1,l8 H5,z3,E5,C5,g3,g4]
    exact r1
  . rw [if_neg (by omega)]
    have hW:w9 q ws=ws:=by unfold w9; rw [if_neg k4]
    rw [hW] at hT ⊢
    exact Xqe h hq (by omega) hT d
end Go.Ab.Sh

set_option maxRecDepth 100000
set_option linter.unusedSimpArgs false
set_option linter.unusedVariables false
namespace Go.Ab.Sh
open Go Go.Ab Go.Lib
variable {m:Mem} {bV b b1 bH b8:Nat} {ws:List Str} {q:QN}
noncomputable abbrev fWd:Value:=.func (.func Q7o) #[] #[]
noncomputable abbrev fSp:Value:=.func (.func Q6f) #[] #[]
structure T8 (m:Mem) (bV b b8:Nat):Prop where
  g8:m.get b8=some (.cells [.int .u32 0,.int .u32 65535] 0 0 false (some (2 * Qe + 1)))
  n8:b8 < m.next
  h3:b8 ≠ bV
  h4:b8 ≠ b
theorem T8.fr {m':Mem} (h:T8 m bV b b8) (f:Fr [bV,b] m m'):T8 m' bV b b8:=
  ⟨by rw [f.get _ h.n8 (by simp; exact ⟨h.h3,h.h4⟩)]; exact h.g8,Nat.lt_of_lt_of_le h.n8 f.next,h.h3,h.h4⟩
def w8 (q:QN) (ws:List Str):List Str:=w9 q (Xv (decide (q.kind < 3)) ws [X24 endsL q.en])
theorem Xvm (h:TQ m bV b b1 ws q) (hq:QOk q) (h8:T8 m bV b b8) (hw:ws.length ≤ 400) (hT:Fit q (w8 q ws)) (d:Nat) :
    ∃ m',Qem ⟨TA (d + 7),18446744073709551616⟩ (fPut bV) (pt b1 0 0) fWd (pt b8 0 0) fSp (pt bV 0 0) m=some (txtV (Xw [32] (w10 q (w8 q ws))) q,m')∧Fr [bV,b] m m':=by
  have x0:=h.ld (o:=0 + 0) (x:=.int .u8 (q.kind:Int)) rfl
  have x4:=h.ld (o:=0 + 4) (x:=.int .u8 (q.en:Int)) rfl
  have cw:Xi (TA (d + 7)) fWd [sv Xb3,.int .u8 (q.en:Int)] m=some (sv (X24 endsL q.en),m):=c_wordE q.en hq.en (d + 6) m
  have hk:decide ((q.kind:Int) < 3)=decide (q.kind < 3):=Xc9 (n:=3)
  obtain ⟨m1,m2,p1,p2,p3,p4⟩:=h.t.put1 (by omega) (X24 endsL q.en) (decide (q.kind < 3)) (d + 6)
  have hl:=X2g (decide (q.kind < 3)) ws [X24 endsL q.en]
  have h82:=h8.fr p3
  obtain ⟨m3,r1,r2⟩:=Xv4 (ws:=Xv (decide (q.kind < 3)) ws [X24 endsL q.en]) (h.step p3 p4) hq h82.g8 h82.n8 h82.h3 h82.h4 (by simp at hl; omega) hT d
  refine ⟨m3,?_,p3.trans r2⟩
  unfold Qem
  rw [Xg,X0,x0,X0,Qf,X0,Xg,X0,x4,X0]
  have hgo:∀ K:Value→Mem→Option Rs,bp (Xi (TA (d + 7)) fWd [sv Xb3,.int .u8 (q.en:Int)] m) K=K (sv (X24 endsL q.en)) m:=fun K=>by rw [cw,X5]
  refine (hgo _).trans ?_
  simp only [x0,X1s,Bool.and_true,X18,hk,p1,X5,p2]
  exact r1
def w7 (q:QN) (ws:List Str):List Str:=w8 q (Xv (decide (q.kind < 5)) ws [q.ifc])
theorem Xv0 (h:TQ m bV b b1 ws q) (hq:QOk q) (h8:T8 m bV b b8) (hw:ws.length ≤ 300) (hT:Fit q (w7 q ws)) (d:Nat) :
    ∃ m',Qen ⟨TA (d + 7),18446744073709551616⟩ (fPut bV) (pt b1 0 0) fWd (pt b8 0 0) fSp (pt bV 0 0) m=some (txtV (Xw [32] (w10 q (w7 q ws))) q,m')∧Fr [bV,b] m m':=by
  have x0:=h.ld (o:=0 + 0) (x:=.int .u8 (q.kind:Int)) rfl
  have x2:=h.ld (o:=0 + 2) (x:=sv q.ifc) rfl
  have hk:decide ((q.kind:Int) < 5)=decide (q.kind < 5):=Xc9 (n:=5)
  obtain ⟨m1,m2,p1,p2,p3,p4⟩:=h.t.put1 (by omega) q.ifc (decide (q.kind < 5)) (d + 6)
  have hl:=X2g (decide (q.kind < 5)) ws [q.ifc]
  obtain ⟨m3,r1,r2⟩:=Xvm (ws:=Xv (decide (q.kind < 5)) ws [q.ifc]) (h.step p3 p4) hq (h8.fr p3) (by simp at hl; omega) hT d
  refine ⟨m3,?_,p3.trans r2⟩
  unfold Qen
  simp only [Xg,x0,x2,X0,Qf,hk,p1,X5,p2]
  exact r1
def w6 (q:QN) (ws:List Str):List Str:=w7 q (Xv (decide (q.kind < 7)) ws [q.dev])
theorem Xvj (h:TQ m bV b b1 ws q) (hq:QOk q) (h8:T8 m bV b b8) (hw:ws.length ≤ 200) (hT:Fit q (w6 q ws)) (d:Nat) :
    ∃ m',Qeo ⟨TA (d + 7),18446744073709551616⟩ (fPut bV) (pt b1 0 0) fWd (pt b8 0 0) fSp (pt bV 0 0) m=some (txtV (Xw [32] (w10 q (w6 q ws))) q,m')∧Fr [bV,b] m m':=by
  have x0:=h.ld (o:=0 + 0) (x:=.int .u8 (q.kind:Int)) rfl
  have x1:=h.ld (o:=0 + 1) (x:=sv q.dev) rfl
  have hk:decide ((q.kind:Int) < 7)=decide (q.kind < 7):=Xc9 (n:=7)
  obtain ⟨m1,m2,p1,p2,p3,p4⟩:=h.t.put1 (by omega) q.dev (decide (q.kind < 7)) (d + 6)
  have hl:=X2g (decide (q.kind < 7)) ws [q.dev]
  obtain ⟨m3,r1,r2⟩:=Xv0 (ws:=Xv (decide (q.kind < 7)) ws [q.dev]) (h.step p3 p4) hq (h8.fr p3) (by simp at hl; omega) hT d
  refine ⟨m3,?_,p3.trans r2⟩
  unfold Qeo
  simp only [Xg,x0,x1,X0,Qf,hk,p1,X5,p2]
  exact r1
def textW (q:QN):List Str:=w10 q (w6 q [X24 kindsL q.kind])
theorem c_askText (q:QN) (hq:QOk q) (hT:Fit q (w6 q [X24 kindsL q.kind])) (d:Nat) (m:Mem):TA (d + 8) Qee [qV q] m=some (txtV (Xw [32] (textW q)) q,m):=by
  rw [Xl4]
  let M:=((X4 m m.next).push (.cells (qC q) 0 0 false tyA)).push (.cells [.slice none 0 0] 0 0 false tyR)
  have nM:M.next=m.next + 2:=rfl
  have g1:M.get m.next=some (.cells (qC q) 0 0 false tyA):=by
    show (((X4 m m.next).push (.cells (qC q) 0 0 false tyA)).push (.cells [.slice none 0 0] 0 0 false tyR)).get m.next=_
    rw [Mem.get_push,if_neg (by show ¬ m.next + 1=m.next; omega)]
    exact Xl (X4 m m.next) _
  have gV:M.get (m.next + 1)=some (.cells [.slice none 0 0] 0 0 false tyR):=Xl ((X4 m m.next).push (.cells (qC q) 0 0 false tyA)) _
  have F0:Fb m.next (X4 m m.next) M:=(Fb.push (m:=X4 m m.next) _ (Nat.le_refl _)).trans (Fb.push _ (by show m.next ≤ m.next + 1; omega))
  have aS:Xn Qc [(0,1),(1,1)] [(1,(.int .u32 65535))]=some (Xz ((0:Nat):Int) ((65535:Nat):Int)):=Eq.trans rfl rfl
  obtain ⟨m1,s1,s2,s3,s4⟩:=X1f [] M (some (2 * Qe + 1)) Qc (v:=Xz ((0:Nat):Int) ((65535:Nat):Int)) (n:=2) rfl rfl rfl
  have s1:X7 2 (pt M.next 0 0) (Xz ((0:Nat):Int) ((65535:Nat):Int)) (M.push (.cells Qc 0 0 false (some (2 * Qe + 1))))=some m1:=s1
  have gV1:m1.get (m.next + 1)=some (.cells [.slice none 0 0] 0 0 false tyR):=by rw [s2.get _ (by omega) (by simp)]; exact gV
  have g11:m1.get m.next=some (.cells (qC q) 0 0 false tyA):=by rw [s2.get _ (by omega) (by simp)]; exact g1
  have x0:X6 false 1 (pt m.next (0 + 0) 0) m1=some (.int .u8 (q.kind:Int)):=Xo g11 rfl
  have cw:Xi (TA (d + 7)) fWd [sv X61,.int .u8 (q.kind:Int)] m1=some (sv (X24 kindsL q.kind),m1):=c_wordK q.kind hq.kind (d + 6) m1
  obtain ⟨m2,m3,p1,p2,p3,p4⟩:=put0 gV1 (by omega) (X24 kindsL q.kind) (d + 6)
  have hb:m1.next + 1 ≠ m.next:=by omega
  have h3:TQ m3 (m.next + 1) (m1.next + 1) m.next [X24 kindsL q.kind] q:=⟨p4,by rw [p3.get _ (by omega) (by simp)]; exact g11,by have:=p3.next; omega,by omega,by omega⟩
  have h8:T8 m3 (m.next + 1) (m1.next + 1) M.next:=⟨by rw [p3.get _ (by omega) (by simp; omega)]; exact s4,by have:=p3.next; omega,by omega,by omega⟩
  obtain ⟨m4,r1,r2⟩:=Xvj h3 hq h8 (by simp) hT d
  have F4:Fb m.next M m4:=((s2.toFb (by omega)).trans (p3.toFbW (by simp) (by omega))).trans (r2.toFbW (by simp; omega) (by have:=p3.next; omega))
  refine Xq (m1:=m4) ?_ (F0.trans F4) (by unfold txtV; split <;> rfl)
  have hcs:(Value.cells (qV q)).toList=qC q:=rfl
  unfold Qcy Qgf Qge Qgd Qgc Qgb
  rw [hcs,Xh,Xh,aS,X0,Xh]
  show bp (unt (X7 2 (pt M.next 0 0) (Xz ((0:Nat):Int) ((65535:Nat):Int)) (M.push (.cells Qc 0 0 false (some (2 * Qe + 1)))))) _=_
  rw [s1,Xe]
  unfold Qga
  show bp (pur (X3 0 (pt m.next 0 0)) m1) _=_
  rw [Xg,X0,x0,X0]
  have hgo:∀ K:Value→Mem→Option Rs,bp (Xi (TA (d + 7)) fWd [sv X61,.int .u8 (q.kind:Int)] m1) K=K (sv (X24 kindsL q.kind)) m1:=fun K=>by rw [cw,X5]
  refine (hgo _).trans ?_
  have p2':Xi (TA (d + 7)) (.func (.func Q7p) ⟨[]⟩ ⟨[pt ((X4 m m.next).push (.cells (qC q) 0 0 false (some (2 * Q12 + 1)))).next 0 0]⟩) [.bool true,.slice (some ⟨m1.next,0,some 1⟩) 1 1] m2=some (.tuple ⟨[]⟩,m3):=p2
  rw [p1,X5,p2',X5]
  exact r1
end Go.Ab.Sh

set_option maxRecDepth 100000
set_option linter.unusedSimpArgs false
set_option linter.unusedVariables false
namespace Go.Ab
open Go Go.Lib Go.Ab.Sh
theorem Xo4 (c:Bool) (ws:List Str) (x y:Str):Xv c ws [x,y]=ws ++ optW c x y:=by
  cases c <;> simp [Xv,optW]
theorem Xdk {k:Nat} (h1:1 ≤ k) (h7:k ≤ 7):X24 kindsL k=X16 k:=by
  unfold X24 X16
  rw [if_neg (by omega),if_neg (by show ¬ 7 < k; omega)]
theorem Xs9 {k:Nat} (h1:1 ≤ k) (h7:k ≤ 7):X24 endsL k=endW k:=by
  unfold X24 endW
  rw [if_neg (by omega),if_neg (by show ¬ 7 < k; omega)]
theorem Xjt (q:QN) (ws:List Str) (h:q.kind < 4):w9 q ws=ws ++ X1b q.r:=by
  unfold w9 X1b
  rw [if_pos h]
  simp only [Xo4,List.append_assoc]
theorem Xr8 (ws xs:List Str):Xv true ws xs=ws ++ xs:=rfl
theorem Xr5 (ws xs:List Str):Xv false ws xs=ws:=rfl
theorem Xlx {q:QN} (h:GoodQ q):Xw [32] (textW q)=writeT q:=by
  have hj:textW q=X17 q→Xw [32] (textW q)=writeT q:=fun e=>by rw [e]; exact (split_eq_iff.mp (X42 h)).2.1.symm
  cases h with
  | way k dev ifc en r hk hd hi e1 e7 hr =>
    refine hj ?_
    have h2:k ≤ 2:=by omega
    unfold textW w6 w7 w8 w10 w11 X17
    simp only
    rw [if_pos h2,decide_eq_true (show k < 7 by omega),decide_eq_true (show k < 5 by omega),decide_eq_true (show k < 3 by omega),decide_eq_false (show ¬ k=4 by omega),decide_eq_false (show ¬ k=7 by omega),Xjt _ _ (show k < 4 by omega),Xdk (show 1 ≤ k by omega) (by omega),Xs9 e1 e7]
    rw [decide_eq_false (show ¬ ((k=5∨k=6)∧q0.vrf ≠ []) by omega)]
    simp only [Xr8,Xr5,List.append_assoc,List.cons_append,List.nil_append]
  | loop dev ifc r hd hi hr =>
    refine hj ?_
    unfold textW w6 w7 w8 w10 w11 X17
    simp only
    rw [Xjt _ _ (show 3 < 4 by omega),Xdk (show 1 ≤ 3 by omega) (by omega)]
    rfl
  | trace dev ifc hops a b p m n hd hi hh hb =>
    have e:textW { q0 with kind:=4,dev:=dev,ifc:=ifc,hops:=(hops:Nat),a:=a,b:=b,p:=p,m:=m,n:=n }=[X16 4,dev,ifc,itoa (hops:Nat),X2j a b p m n]:=rfl
    rw [e]
    show _=X16 4 ++ [32] ++ dev ++ [32] ++ ifc ++ [32] ++ itoa (hops:Nat) ++ [32] ++ X2j a b p m n
    simp [Xw,List.intercalate,List.intersperse]
  | table k dev hk hd =>
    refine hj ?_
    rcases hk with rfl | rfl <;> rfl
  | tableV k dev vrf hk hd hv =>
    refine hj ?_
    have hne:=Xbx hv
    rcases hk with rfl | rfl
    . unfold textW w6 w7 w8 w10 w11 X17
      simp only
      simp [Xv,w9,hne,Xdk]
    . unfold textW w6 w7 w8 w10 w11 X17
      simp only
      simp [Xv,w9,hne,Xdk]
  | owner ad ha =>
    refine hj ?_
    rfl
theorem Xr9 (q:QN):(GoodQ q→txtV (Xw [32] (textW q)) q=.tuple ⟨[sv (writeT q),I 0]⟩)∧(¬ GoodQ q→txtV (Xw [32] (textW q)) q=.tuple ⟨[sv [],I 1]⟩):=by
  constructor
  . intro h
    unfold txtV
    rw [Xlx h,if_pos (ask_iff.mpr ⟨h,rfl⟩)]
  . intro h
    unfold txtV
    rw [if_neg (fun e=>h (ask_iff.mp e).1)]
end Go.Ab

set_option maxRecDepth 100000
set_option linter.unusedSimpArgs false
set_option linter.unusedVariables false
namespace Go.Ab
open Go Go.Lib Go.Ab.Sh
def sumL:List Str→Nat
  | []=>0
  | w :: ws=>w.length + 1 + sumL ws
theorem Xkh:∀ (l k:List Str),sumL (l ++ k)=sumL l + sumL k
  | [],k=>by simp [sumL]
  | w :: l,k=>by rw [List.cons_append,sumL,sumL,Xkh l k]; omega
theorem Xgw:∀ (l:List Str),(Xw [32] l).length ≤ sumL l
  | []=>Nat.zero_le _
  | [a]=>by simp [Xw,List.intercalate,sumL]
  | a :: b :: l=>by
    have e:Xw [32] (a :: b :: l)=a ++ 32 :: Xw [32] (b :: l):=by simp [Xw,List.intercalate,List.intersperse]
    have:=Xgw (b :: l)
    rw [e,sumL]
    simp only [List.length_append,List.length_cons]
    omega
theorem X23 (c:Bool) (ws xs:List Str):sumL (Xv c ws xs) ≤ sumL ws + sumL xs:=by
  unfold Xv
  split
  . rw [Xkh]; omega
  . omega
theorem Xfn (l:List Str) (n:Nat) (hl:∀ w ∈ l,w.length ≤ 10):(X24 l n).length ≤ 10:=by
  unfold X24
  split
  . simp
  . split
    . simp
    . rw [List.getD_eq_getElem?_getD]
      cases h:l[n - 1]? with
      | none=>simp
      | some w=>exact hl w (List.mem_of_getElem? h)
theorem Xt4 (q:QN) (hq:QOk q) (ws:List Str):sumL (w9 q ws) ≤ sumL ws + 500:=by
  unfold w9
  split
  . have f1:=X4f q.r.sa q.r.sb hq.r.sa hq.r.sb
    have f2:=X4f q.r.da q.r.db hq.r.da hq.r.db
    have f3:=Sh.itoa_len q.r.proto hq.r.proto
    have f4:=X4m q.r.sl q.r.sh hq.r.sl hq.r.sh
    have f5:=X4m q.r.dl q.r.dh hq.r.dl hq.r.dh
    have g1:=X23 (cF q.r) ws [fromW,X1c q.r.sa q.r.sb]
    have g2:=X23 (cT q.r) (Xv (cF q.r) ws [fromW,X1c q.r.sa q.r.sb]) [toW,X1c q.r.da q.r.db]
    have g3:=X23 (cP q.r) (Xv (cT q.r) (Xv (cF q.r) ws [fromW,X1c q.r.sa q.r.sb]) [toW,X1c q.r.da q.r.db]) [protoW,itoa q.r.proto]
    have g4:=X23 (cS q.r) (Xv (cP q.r) (Xv (cT q.r) (Xv (cF q.r) ws [fromW,X1c q.r.sa q.r.sb]) [toW,X1c q.r.da q.r.db]) [protoW,itoa q.r.proto]) [sportsW,Xu q.r.sl q.r.sh]
    have g5:=X23 (cD q.r) (Xv (cS q.r) (Xv (cP q.r) (Xv (cT q.r) (Xv (cF q.r) ws [fromW,X1c q.r.sa q.r.sb]) [toW,X1c q.r.da q.r.db]) [protoW,itoa q.r.proto]) [sportsW,Xu q.r.sl q.r.sh]) [dportsW,Xu q.r.dl q.r.dh]
    have w1:fromW.length=4:=rfl
    have w2:toW.length=2:=rfl
    have w3:protoW.length=5:=rfl
    have w4:sportsW.length=6:=rfl
    have w5:dportsW.length=6:=rfl
    simp only [sumL] at g1 g2 g3 g4 g5
    omega
  . omega
theorem Xtr (q:QN) (hq:QOk q) (hb:q.dev.length + q.ifc.length + q.vrf.length ≤ 4000000):Fit q (w6 q [X24 kindsL q.kind]):=by
  intro c1 c2 c3
  refine Nat.le_trans (Xgw _) ?_
  have k1:=Xfn kindsL q.kind (by decide)
  have k2:=Xfn endsL q.en (by decide)
  have a1:=X23 (decide (q.kind < 7)) [X24 kindsL q.kind] [q.dev]
  have a2:=X23 (decide (q.kind < 5)) (Xv (decide (q.kind < 7)) [X24 kindsL q.kind] [q.dev]) [q.ifc]
  have a3:=X23 (decide (q.kind < 3)) (Xv (decide (q.kind < 5)) (Xv (decide (q.kind < 7)) [X24 kindsL q.kind] [q.dev]) [q.ifc]) [X24 endsL q.en]
  have a4:=Xt4 q hq (Xv (decide (q.kind < 3)) (Xv (decide (q.kind < 5)) (Xv (decide (q.kind < 7)) [X24 kindsL q.kind] [q.dev]) [q.ifc]) [X24 endsL q.en])
  have hW:w6 q [X24 kindsL q.kind]=w9 q (Xv (decide (q.kind < 3)) (Xv (decide (q.kind < 5)) (Xv (decide (q.kind < 7)) [X24 kindsL q.kind] [q.dev]) [q.ifc]) [X24 endsL q.en]):=rfl
  rw [hW]
  generalize w9 q (Xv (decide (q.kind < 3)) (Xv (decide (q.kind < 5)) (Xv (decide (q.kind < 7)) [X24 kindsL q.kind] [q.dev]) [q.ifc]) [X24 endsL q.en])=W at *
  have b1:=X23 c1 W [itoa q.hops,X2j q.a q.b q.p q.m q.n]
  have b2:=X23 c2 (Xv c1 W [itoa q.hops,X2j q.a q.b q.p q.m q.n]) [vrfW,q.vrf]
  have b3:=X23 c3 (Xv c2 (Xv c1 W [itoa q.hops,X2j q.a q.b q.p q.m q.n]) [vrfW,q.vrf]) [X1j q.ad]
  have l5:=Sh.itoa_len q.hops hq.hops
  have l6:=Xbh hq.hb
  have l7:=X2e q.ad hq.ad
  have l8:vrfW.length=3:=rfl
  simp only [sumL] at *
  omega
end Go.Ab

set_option maxRecDepth 100000
set_option linter.unusedSimpArgs false
set_option linter.unusedVariables false
namespace Go.Ab
open Go Go.Lib Go.Ab.Sh
theorem Xkw (q:QN) (hq:QOk q) (hb:q.dev.length + q.ifc.length + q.vrf.length ≤ 4000000):(writeT q).length ≤ 4194304:=by
  have l4:=Xdb q.r hq.r
  have l5:=Sh.itoa_len q.hops hq.hops
  have l6:=Xbh hq.hb
  have l7:=X2e q.ad hq.ad
  unfold writeT
  generalize X1j q.ad=AT at *
  generalize X2j q.a q.b q.p q.m q.n=HT at *
  generalize X39 q.r=PT at *
  generalize itoa q.hops=IH at *
  split
  . simp
  . rename_i w hw
    have hwl:=Xde w (List.mem_of_getElem? hw)
    split
    . simp
    . split
      . split
        . simp
        . split
          . simp
          . rename_i e he
            have hel:=Xh3 e (List.mem_of_getElem? he)
            simp only [List.length_append,List.length_cons,List.length_nil]
            omega
      . split
        . simp only [List.length_append,List.length_cons,List.length_nil]
          omega
        . split
          . simp only [List.length_append,List.length_cons,List.length_nil]
            omega
          . split
            . split <;> simp only [List.length_append,List.length_cons,List.length_nil] <;> omega
            . simp only [List.length_append,List.length_cons,List.length_nil]
              omega
end Go.Ab

set_option maxRecDepth 100000
set_option linter.unusedSimpArgs false
set_option linter.unusedVariables false
namespace Go.Ab.Sh
open Go Go.Ab Go.Lib
abbrev cnt (hi lo:Nat):Value:=.agg ⟨[.int .u64 (hi:Int),.int .u64 (lo:Int)]⟩
theorem Xmv (a b:Nat) (mm:Mem):again (pur (some (cnt a b)) mm) (cnt a b)=true:=by
  show vsame 8 (cnt a b) (cnt a b)=true
  simp [vsame,vsame.vsames]
theorem Xro (q:QN) (mm:Mem):again (pur (some (qV q)) mm) (qV q)=true:=by
  show vsame 8 (qV q) (qV q)=true
  simp [vsame,qC,vsame.vsames,sv]
theorem c_AskReads (s:Str) (q:QN) (hi lo:Nat) (D:Str) (hs:s.length ≤ 4194304) (hq:QOk q) (hb:q.dev.length + q.ifc.length + q.vrf.length ≤ 4000000) (d:Nat)
    (hD1:∀ m,TA (d + 8) Qbo [cnt hi lo] m=some (sv D,m)) (hD2:∀ m,TA (d + 8) Q2f [cnt hi lo] m=some (sv D,m)) (m:Mem) :
    TA (d + 9) Q21 [sv s,qV q,cnt hi lo] m=some (.bool true,m):=by
  rw [X59]
  let M:=((X4 m m.next).push (.cells (qC q) 0 0 false tyA)).push (.cells [.int .u64 (hi:Int),.int .u64 (lo:Int)] 0 0 false (some (2 * Q7k + 1)))
  have nM:M.next=m.next + 2:=rfl
  have g1:M.get m.next=some (.cells (qC q) 0 0 false tyA):=by
    show (((X4 m m.next).push (.cells (qC q) 0 0 false tyA)).push (.cells [.int .u64 (hi:Int),.int .u64 (lo:Int)] 0 0 false (some (2 * Q7k + 1)))).get m.next=_
    rw [Mem.get_push,if_neg (by show ¬ m.next + 1=m.next; omega)]
    exact Xl (X4 m m.next) _
  have g2:M.get (m.next + 1)=some (.cells [.int .u64 (hi:Int),.int .u64 (lo:Int)] 0 0 false (some (2 * Q7k + 1))):=Xl ((X4 m m.next).push (.cells (qC q) 0 0 false tyA)) _
  have F0:Fb m.next (X4 m m.next) M:=(Fb.push (m:=X4 m m.next) _ (Nat.le_refl _)).trans (Fb.push _ (by show m.next ≤ m.next + 1; omega))
  obtain ⟨o,ho⟩:∃ o,o=askW (split 32 s):=⟨_,rfl⟩
  have ho2:refW (split 32 s) s=o:=by rw [ho,Xn8]
  have c1:TA (d + 8) Q7j [sv s] M=_:=c_askParse s hs (d + 1) M
  rw [← ho,Xdm] at c1
  obtain ⟨m1,s1,s2,s3,s4⟩:=X1f [] M tyA Qj (v:=qV (o.getD q0)) (n:=22) rfl rfl rfl
  have s1:X7 22 (pt M.next 0 0) (qV (o.getD q0)) (M.push (.cells Qj 0 0 false (some (2 * Q12 + 1))))=some m1:=s1
  have c2:TA (d + 8) Q25 [sv s] m1=_:=c_refParse s hs (d + 1) m1
  rw [ho2,Xdm] at c2
  obtain ⟨m2,t1,t2,t3,t4⟩:=X1f [] m1 tyQ Q0 (v:=qV (o.getD q0)) (n:=22) rfl rfl rfl
  have t1:X7 22 (pt m1.next 0 0) (qV (o.getD q0)) (m1.push (.cells Q0 0 0 false (some (2 * Qb + 1))))=some m2:=t1
  have f2:Fr [] M m2:=s2.trans t2
  have lq:X6 true 22 (pt m.next 0 0) m2=some (qV q):=Xk (by rw [f2.get _ (by omega) (by simp)]; exact g1) (by show 22 ≤ 22; omega) rfl
  have lx:X6 true 22 (pt M.next 0 0) m2=some (qV (o.getD q0)):=Xk (by rw [t2.get _ (by omega) (by simp)]; exact s4) (by show 22 ≤ 22; omega) rfl
  have ly:X6 true 22 (pt m1.next 0 0) m2=some (qV (o.getD q0)):=Xk t4 (by show 22 ≤ 22; omega) rfl
  have lc:X6 true 2 (pt (m.next + 1) 0 0) m2=some (cnt hi lo):=Xk (by rw [f2.get _ (by omega) (by simp)]; exact g2) (by show 2 ≤ 2; omega) rfl
  have ct:TA (d + 8) Qee [qV q] m2=_:=c_askText q hq (Xtr q hq hb) d m2
  have cof:∀ x:QN,TA (d + 8) Q3m [qV x] m2=some (qV x,m2):=fun x=>c_of x (d + 7) m2
  obtain ⟨b,cb1,cb2⟩:=c_Is q hq (Xkw q hq hb) d m2
  have cw:TA (d + 8) Qt [qV q] m2=_:=c_Write q hq (d + 2) m2
  obtain ⟨e,ce1,ce2⟩:=Qln (o.getD q0) (o.getD q0)
  have he:e=true:=ce2.mpr rfl
  subst he
  have hD1:=hD1 m2
  have hD2:=hD2 m2
  obtain ⟨y1,y2⟩:=Xr9 q
  have ez:Value.string ⟨#[]⟩=sv []:=rfl
  refine Xq (m1:=m2) ?_ (F0.trans (f2.toFb (by omega))) rfl
  have hcs:(Value.cells (qV q)).toList=qC q:=rfl
  have hcc:(Value.cells (cnt hi lo)).toList=[.int .u64 (hi:Int),.int .u64 (lo:Int)]:=rfl
  have brt_f:∀ {α:Type} (a b s:Option α),brt (.bool false) a b s=b:=fun _ _ _=>rfl
  unfold Q20 Q7b
  rw [hcs,hcc,Xh,Xh]
  show bp (TA (d + 8) Q7j [sv s] M) _=_
  rw [c1,X5,ex0,X0,ex1,X0,Xh,s1,Xe]
  unfold Q7c
  dsimp only
  rw [c2,X5,ex0,X0,ex1,X0,Xh,t1,Xe]
  unfold Q7d
  show bp (pur (X6 true 22 (pt m.next 0 0) m2) m2) _=_
  rw [lq,X0]
  dsimp only
  rw [ct,X5]
  have key:∀ (T:Str) (E:Int),txtV (Xw [32] (textW q)) q=.tuple ⟨[sv T,I E]⟩→((b=true∧T=writeT q∧E=0)∨(b=false∧T=[]∧E=1))→(bp (pur (Xa (txtV (Xw [32] (textW q)) q) 0) m2) fun x23 m_1=>bp (pur (Xa (txtV (Xw [32] (textW q)) q) 1) m_1) fun x24 m_2=>Q4m ⟨TA (d + 8),18446744073709551616⟩ (pt M.next 0 0) (pt m1.next 0 0) (I (if o.isSome=true then 0 else 4)) (I (if o.isSome=true then 0 else 4)) (pt (m.next + 1) 0 0) (pt m.next 0 0) x24 x23 m_2)=some (.bool true,m2):=by
    intro T E hV hc
    rw [hV,ex0,X0,ex1,X0]
    unfold Q4m
    dsimp only
    rw [lx,X0,ly,X0,cof,X5,ly,Xro,Bool.and_true,X18,ce1,X0]
    show brt (.bool false) _ _ _=_
    rw [brt_f,Q1o,X0,decide_eq_false (fun h=>h rfl),brt_f,lc,X0,lc,X0,hD1,X5,lc,Xmv,Bool.and_true,X18,hD2,X5,Qf6,X0,decide_eq_false (fun h=>h rfl)]
    unfold Q2q Q7e
    dsimp only
    rw [Xb,lq,X0,cof,X5,cb1,X5,X1u,X0]
    unfold Q7f Q7g Q4n Q4o
    dsimp only
    rcases hc with ⟨rfl,rfl,rfl⟩ | ⟨rfl,rfl,rfl⟩
    . rw [show (Value.bool !true)=.bool false from rfl,Xb,Qp,X0,X8,if_pos rfl,lq,X0,cof,X5,cw,X5,Qcp,X0,decide_eq_true rfl]
    . rw [show (Value.bool !false)=.bool true from rfl,Xd,Qp,X0,X8,if_pos rfl,ez,Qcp,X0,decide_eq_true rfl]
  by_cases hg:GoodQ q
  . exact key _ _ (y1 hg) (.inl ⟨cb2.mpr hg,rfl,rfl⟩)
  . exact key _ _ (y2 hg) (.inr ⟨by cases b with | false=>rfl | true=>exact absurd (cb2.mp rfl) hg,rfl,rfl⟩)
end Go.Ab.Sh

set_option maxRecDepth 100000
set_option linter.unusedSimpArgs false
set_option linter.unusedVariables false
namespace Go.Ab
open Go Go.Lib Go.Ab.Sh
def GA (B:Nat) (m:Mem) (v:Value) (vs:List Value):Prop:=
  (vs=[]∧v=.slice none 0 0)∨(vs ≠ []∧∃ b ver r ty,r < 2∧v=.slice (some ⟨b,0,some 1⟩) vs.length (2 * ver + r)∧B ≤ b∧b < m.next∧m.get b=some (.cells vs ver 0 false ty))
theorem GA.len {B:Nat} {m:Mem} {v:Value} {vs:List Value} (h:GA B m v vs) (m':Mem):lenK 1 v m'=some (I vs.length):=by
  rcases h with ⟨rfl,rfl⟩ | ⟨_,b,ver,r,ty,_,rfl,_⟩
  . exact Xbk _ _ _ _
  . exact Xbk _ _ _ _
theorem GA.fb {B:Nat} {m m':Mem} {v:Value} {vs:List Value} (h:GA B m v vs) (hn:m.next ≤ m'.next) (hg:∀ b,B ≤ b→b < m.next→m'.get b=m.get b):GA B m' v vs:=by
  rcases h with h | ⟨h1,b,ver,r,ty,hr,h2,h3,h4,h5⟩
  . exact .inl h
  . exact .inr ⟨h1,b,ver,r,ty,hr,h2,h3,by omega,by rw [hg b h3 h4]; exact h5⟩
theorem Xot {m:Mem} {e bytes b b2 len ver fro2:Nat} {c new:List Value} {ty ty2:Option Nat} {ro2:Bool} (h:m.get b=some (.cells c ver 0 false ty)) (h2:m.get b2=some (.cells new 0 fro2 ro2 ty2)) (hn:new.length=1) (h1:new.all one=true)
    (hl:len=c.length) (hb:fits (len + 1) bytes=true) :
    apS e 1 bytes (.slice (some ⟨b,0,some 1⟩) len (2 * ver + 1)) (.slice (some ⟨b2,0,some 1⟩) 1 1) m=some (.slice (some ⟨m.next,0,some 1⟩) (len + 1) 0,m.push (.cells (c ++ new) 0 0 false (some (2 * e)))):=by
  refine Xkm ?_
  unfold X2t
  have e1:(Nat.beq 1 0 || Nat.beq ((2 * ver + 1) % 2) 1)=true:=by
    have:(2 * ver + 1) % 2=1:=by omega
    rw [this]; rfl
  simp only [X2c,e1]
  unfold X1t
  have e3:Nat.ble 1 1=true:=rfl
  have e4:(2 * ver + 1) / 2=ver:=by omega
  have e5:Nat.ble len c.length=true:=Nat.ble_eq.mpr (by omega)
  have e6:(2 * ver + 1) % 2=1:=by omega
  simp only [X2c,Xf5 h2 hn,h1,e3,Bool.and_self,Bool.not_true,Bool.false_eq_true,if_false,h,Nat.zero_add,e4,Nat.beq_refl,Nat.mul_one,e5,hb,beq_self_eq_true,e6,if_true,Nat.one_ne_zero,List.drop_zero]
  rw [hl,List.take_length]
theorem GA.app {B e bytes:Nat} {m:Mem} {v:Value} {vs:List Value} (h:GA B m v vs) (hB:B ≤ m.next) (hl:∀ k,k ≤ vs.length + 1→fits k bytes=true) (z w:Value) (hz:∃ k n,z=.int k n) (hw:∃ k n,w=.int k n) :
    ∃ m2 v' m',Xc e [z] 1 1 [(0,w)] m=some (.slice (some ⟨m.next,0,some 1⟩) 1 1,m2)∧apS e 1 bytes v (.slice (some ⟨m.next,0,some 1⟩) 1 1) m2=some (v',m')∧Fb B m m'∧GA B m' v' (vs ++ [w]):=by
  obtain ⟨kz,nz,rfl⟩:=hz
  obtain ⟨kw,nw,rfl⟩:=hw
  have hb:Xc e [.int kz nz] 1 1 [(0,.int kw nw)] m=some (.slice (some ⟨m.next,0,some 1⟩) 1 1,m.push (.cells [.int kw nw] 0 0 false (some (2 * e)))):=Eq.trans rfl rfl
  have hg:(m.push (.cells [.int kw nw] 0 0 false (some (2 * e)))).get m.next=some (.cells [.int kw nw] 0 0 false (some (2 * e))):=by rw [Mem.get_push,if_pos rfl]
  have hF:Fb B m (m.push (.cells [.int kw nw] 0 0 false (some (2 * e)))):=(Fb.push _ hB)
  rcases h with ⟨rfl,rfl⟩ | ⟨hne,b,ver,r,ty,hr,rfl,h2,h3,h4⟩
  . have ha:=Xi0 (e:=e) (bytes:=bytes) hg rfl rfl (Nat.le_refl 1) (hl 1 (Nat.le_refl _))
    refine ⟨_,_,_,hb,ha,hF.trans (Fb.push _ (by show B ≤ m.next + 1; omega)),.inr ⟨by simp,(m.push (.cells [.int kw nw] 0 0 false (some (2 * e)))).next,0,0,some (2 * e),by omega,rfl,by show B ≤ m.next + 1; omega,by show m.next + 1 < m.next + 1 + 1; omega,?_⟩⟩
    rw [Mem.get_push,if_pos rfl]
    rfl
  . have hfit:fits (vs.length + 1) bytes=true:=hl _ (Nat.le_refl _)
    have hb2:(m.push (.cells [.int kw nw] 0 0 false (some (2 * e)))).get b=some (.cells vs ver 0 false ty):=by rw [Mem.get_push,if_neg (by omega)]; exact h4
    have:r=0∨r=1:=by omega
    rcases this with rfl | rfl
    . obtain ⟨m',k1,k2⟩:=Xqo (e:=e) (bytes:=bytes) (len:=vs.length) (size:=1) hb2 hg rfl rfl (Nat.le_refl 1) (Nat.zero_le _) (by simp) hfit
      refine ⟨_,_,m',hb,k1,(hF.trans ((Fb.refl B _).put _ h2)).meq k2,.inr ⟨by simp,b,ver + 1,0,tyOf ty (2 * e),by omega,by simp,h2,?_,?_⟩⟩
      . rw [k2.next,Mem.next_put]
        show b < m.next + 1
        omega
      . rw [k2.get,Mem.get_put,if_pos rfl]
        congr 2
        simp only [Nat.mul_one]
        rw [List.take_of_length_le (by simp)]
    . have ha:=Xot (e:=e) (bytes:=bytes) hb2 hg rfl rfl rfl hfit
      refine ⟨_,_,_,hb,ha,hF.trans (Fb.push _ (by show B ≤ m.next + 1; omega)),.inr ⟨by simp,(m.push (.cells [.int kw nw] 0 0 false (some (2 * e)))).next,0,0,some (2 * e),by omega,by simp,by show B ≤ m.next + 1; omega,by show m.next + 1 < m.next + 1 + 1; omega,?_⟩⟩
      rw [Mem.get_push,if_pos rfl]
theorem GA.at {B:Nat} {m:Mem} {v:Value} {vs:List Value} (h:GA B m v vs) {i:Nat} {w:Value} (hw:vs[i]?=some w):∃ p,X9 1 v (.int .i64 (i:Int))=some p∧X6 false 1 p m=some w ∧
    ∀ x:Value,x.cells.size=1→x.cells.toList=[x]→one x=true→∃ m',X7 1 p x m=some m'∧Fb B m m'∧m'.next=m.next∧GA B m' v (vs.set i x)∧∀ b,(∃ len r,v=.slice (some ⟨b,0,some 1⟩) len r)∨m'.get b=m.get b:=by
  have hi:i < vs.length:=by
    by_cases hh:i < vs.length
    . exact hh
    . rw [List.getElem?_eq_none (by omega)] at hw; cases hw
  rcases h with ⟨rfl,rfl⟩ | ⟨hne,b,ver,r,ty,hr,rfl,h2,h3,h4⟩
  . simp at hi
  . refine ⟨_,Xob b vs.length (2 * ver + r) i hi,?_,?_⟩
    . rw [show (2 * ver + r) / 2=ver by omega]
      exact Xo h4 hw
    . intro x hx1 hx2 hx3
      rw [show (2 * ver + r) / 2=ver by omega]
      obtain ⟨m',k1,k2⟩:=X3g (o:=i) (n:=1) (v:=x) (c':=vs.set i x) h4 hx1 (Nat.zero_le _) (by omega) (by rw [hx2]; simp [hx3]) (by
        rw [hx2,List.set_eq_take_append_cons_drop,if_pos hi]; simp)
      refine ⟨m',k1,((Fb.refl B m).put _ h2).meq k2,by rw [k2.next,Mem.next_put],.inr ⟨?_,b,ver,r,ty,hr,by rw [List.length_set],h2,by rw [k2.next,Mem.next_put]; exact h3,by rw [k2.get,Mem.get_put,if_pos rfl]⟩,fun b'=>?_⟩
      . intro h
        have:=congrArg List.length h
        simp at this
        exact hne this
      . by_cases e:b'=b
        . subst e; exact .inl ⟨_,_,rfl⟩
        . right
          rw [k2.get,Mem.get_put,if_neg (by omega)]
abbrev by8 (c:UInt8):Value:=.int .u8 (c.toNat:Int)
theorem Xj5:∀ l:Str,X1h (l.map by8)=some l
  | []=>rfl
  | c :: l=>by
    show (match X1h (l.map by8) with | some l=>some (UInt8.ofNat ((c.toNat:Int)).toNat :: l) | none=>none)=_
    rw [Xj5 l]
    simp
theorem GA.conv {B:Nat} {m:Mem} {v:Value} {l:Str} (h:GA B m v (l.map by8)):conv .str v m=some (sv l,m):=by
  rcases h with ⟨h1,rfl⟩ | ⟨hne,b,ver,r,ty,hr,rfl,h2,h3,h4⟩
  . have:l=[]:=by simpa using h1
    subst this; rfl
  . show (match getCells m ⟨b,0,some ((2 * ver + r) / 2)⟩ (l.map by8).length with
      | some cs=>(match X1h cs with | some l=>some (Value.string ⟨l.toArray⟩,m) | none=>none)
      | none=>none)=_
    rw [show (2 * ver + r) / 2=ver by omega]
    have:getCells m ⟨b,0,some ver⟩ (l.map by8).length=some (l.map by8):=by
      simp [Xt,X13,h4]
      rw [List.take_of_length_le (by simp)]
    rw [this]
    simp only [Xj5]
    rfl
end Go.Ab

set_option maxRecDepth 100000
set_option linter.unusedSimpArgs false
set_option linter.unusedVariables false
namespace Go.Ab
open Go Go.Lib
abbrev U (z:Int):Value:=.int .u64 z
theorem wr64 (z:Int):IntKind.u64.wrap z=z % 18446744073709551616:=rfl
theorem Xln (c g:Bool) (a b:Int):bin .add c g .int (U a) (U b)=some (U ((a + b) % 18446744073709551616)):=by rw [Qz,wr64]
theorem Xnr (c g:Bool) (a b:Int):bin .sub c g .int (U a) (U b)=some (U ((a - b) % 18446744073709551616)):=by rw [Q9t,wr64]
theorem Xar (c g:Bool) (a b:Int):bin .mul c g .int (U a) (U b)=some (U ((a * b) % 18446744073709551616)):=by rw [Qik,wr64]
theorem Xpt (c g:Bool) (a b:Int) (ha:0 ≤ a∧a ≤ 18446744073709551615) (hb:1 ≤ b):bin .quo c g .int (U a) (U b)=some (U (a / b)):=by rw [Qhe _ _ _ _ _ (by omega),IntWalk.u64_quo _ _ ⟨ha.1,ha.2,hb⟩]
theorem Xti (c g:Bool) (a b:Int) (ha:0 ≤ a) (hb:1 ≤ b):bin .rem c g .int (U a) (U b)=some (U (a % b)):=by rw [Qhf _ _ _ _ _ (by omega),Int.tmod_eq_emod_of_nonneg ha]
theorem Xv7 (c g:Bool) (k:IntKind) (a:Int) (n:Nat) (hn:n ≤ 64):bin .shl c g .int (U a) (.int k (n:Int))=some (U ((a * 2 ^ n) % 18446744073709551616)):=by
  rw [X1n]
  show (if (n:Int) < 0 then none else some (Value.int .u64 (IntKind.u64.wrap (a * 2 ^ (min (n:Int).toNat 64)))))=_
  rw [if_neg (by omega),Int.toNat_natCast,Nat.min_eq_left hn,wr64]
theorem Xpv (c g:Bool) (k:IntKind) (a:Int) (n:Nat) (hn:n ≤ 64):bin .shr c g .int (U a) (.int k (n:Int))=some (U (a / 2 ^ n)):=by
  rw [X1n]
  show (if (n:Int) < 0 then none else some (Value.int .u64 (a.fdiv (2 ^ (min (n:Int).toNat 64)))))=_
  rw [if_neg (by omega),Int.toNat_natCast,Nat.min_eq_left hn,Int.fdiv_eq_ediv_of_nonneg _ (Int.le_of_lt (Int.pow_pos (by omega)))]
theorem bv64 (a b:Nat) (f:BitVec 64→BitVec 64→BitVec 64):(f (BitVec.ofInt 64 (a:Int)) (BitVec.ofInt 64 (b:Int)))=f (BitVec.ofNat 64 a) (BitVec.ofNat 64 b):=by
  rw [BitVec.ofInt_natCast,BitVec.ofInt_natCast]
theorem Xrz (c g:Bool) (a b:Nat) (ha:a < 18446744073709551616) (hb:b < 18446744073709551616):bin .and c g .int (U a) (U b)=some (U ((a &&& b:Nat):Int)):=by
  rw [X1n]
  show some (Value.int .u64 (IntKind.u64.wrap (((BitVec.ofInt 64 (a:Int)) &&& (BitVec.ofInt 64 (b:Int))).toNat:Int)))=_
  rw [bv64 a b (· &&& ·),BitVec.toNat_and,BitVec.toNat_ofNat,BitVec.toNat_ofNat,Nat.mod_eq_of_lt (by omega),Nat.mod_eq_of_lt (by omega)]
  have:a &&& b ≤ a:=Nat.and_le_left
  rw [IntWalk.u64_in _ (by omega)]
theorem u_or (c g:Bool) (a b k:Nat) (hk:k ≤ 64) (ha:a * 2 ^ k < 18446744073709551616) (hb:b < 2 ^ k) (hb2:b < 18446744073709551616) (hs:a * 2 ^ k + b < 18446744073709551616):bin .or c g .int (U ((a * 2 ^ k:Nat):Int)) (U b)=some (U ((a * 2 ^ k + b:Nat):Int)):=by
  rw [X1n]
  show some (Value.int .u64 (IntKind.u64.wrap (((BitVec.ofInt 64 ((a * 2 ^ k:Nat):Int)) ||| (BitVec.ofInt 64 (b:Int))).toNat:Int)))=_
  rw [bv64 (a * 2 ^ k) b (· ||| ·),BitVec.toNat_or,BitVec.toNat_ofNat,BitVec.toNat_ofNat,Nat.mod_eq_of_lt (by omega),Nat.mod_eq_of_lt (by omega)]
  have h:=Nat.shiftLeft_add_eq_or_of_lt hb a
  rw [Nat.shiftLeft_eq] at h
  rw [← h,IntWalk.u64_in _ (by omega)]
theorem mask32 (a:Nat):a &&& 4294967295=a % 4294967296:=by
  have:=Nat.and_two_pow_sub_one_eq_mod a 32
  exact this
end Go.Ab
namespace Go.Ab.Sh
open Go Go.Ab Go.Lib
theorem c_Len10 (d:Nat) (m:Mem):TA (d + 1) Q9u [U 10] m=some (I 4,m):=by
  rw [X9m]
  have hx:Q59 ⟨TA d,18446744073709551616⟩ (U 10) (X4 m m.next)=some (I 4,X4 m m.next):=Eq.trans rfl rfl
  exact Xq hx (.refl _ _) rfl
theorem c_Lz10 (d:Nat) (m:Mem):TA (d + 2) Q2b [U 10] m=some (I 60,m):=by
  rw [X3s]
  refine Xq (m1:=X4 m m.next) ?_ (.refl _ _) rfl
  unfold Q1i
  dsimp only
  rw [c_Len10,X5,Q9t,X0]
  rfl
theorem kn1 (hi lo u:Nat) (h1:hi < 10) (h2:lo < 18446744073709551616) (e1:u=hi * 1152921504606846976 + lo / 16):u < 11529215046068469760:=by omega
theorem kn2 (u q1:Nat) (a1:u < 11529215046068469760) (e2:q1=u / 2684354560):q1 * 2684354560 ≤ u∧u - q1 * 2684354560 < 2684354560∧q1 < 4294967296:=by omega
theorem kn3 (r1 l t x:Nat) (hx:x=r1 * 16 + l) (e3:t=r1 * 4294967296 + l * 268435456):t=x * 268435456:=by
  subst hx e3
  rw [Nat.add_mul,Nat.mul_assoc]
theorem kn4 (r1 l x:Nat) (hr:r1 < 2684354560) (hl:l < 16) (hx:x=r1 * 16 + l):x < 42949672960:=by omega
theorem kn5 (t x q0:Nat) (h:t=x * 268435456) (hq:q0=t / 2684354560):q0=x / 10:=by omega
theorem kn6 (t x q0:Nat) (h:t=x * 268435456) (hq:q0=x / 10):t - q0 * 2684354560=(x % 10) * 268435456:=by omega
theorem kn7 (hi lo u q1 r1 x:Nat) (e1:u=hi * 1152921504606846976 + lo / 16) (hr:u=q1 * 2684354560 + r1) (hx:x=r1 * 16 + lo % 16):hi * 18446744073709551616 + lo=q1 * 42949672960 + x:=by omega
theorem kn8 (q1 x:Nat):q1 * 4294967296 + x / 10=(q1 * 42949672960 + x) / 10:=by omega
theorem kn9 (q1 x:Nat):(x % 10) * 268435456 * 4294967296 / 1152921504606846976=(q1 * 42949672960 + x) % 10:=by omega
theorem kn10 (t x:Nat) (h:t=x * 268435456) (hx:x < 42949672960):t < 11529215046068469760:=by omega
theorem kn11 (x:Nat)  (hx:x < 42949672960):x / 10 < 4294967296:=by omega
theorem Xrw (hi lo u q1 t q0:Nat) (h1:hi < 10) (h2:lo < 18446744073709551616) (e1:u=hi * 1152921504606846976 + lo / 16) (e2:q1=u / 2684354560)
    (e3:t=(u - q1 * 2684354560) * 4294967296 + lo % 16 * 268435456) (e4:q0=t / 2684354560) :
    u < 11529215046068469760∧q1 < 4294967296∧u - q1 * 2684354560 < 2684354560∧q1 * 2684354560 ≤ u∧t < 11529215046068469760∧q0 < 4294967296 ∧
      q1 * 4294967296 + q0=(hi * 18446744073709551616 + lo) / 10∧(t - q0 * 2684354560) * 4294967296 / 1152921504606846976=(hi * 18446744073709551616 + lo) % 10:=by
  have a1:=kn1 hi lo u h1 h2 e1
  obtain ⟨a2,a3,a4⟩:=kn2 u q1 a1 e2
  obtain ⟨r1,hr⟩:∃ r1,u - q1 * 2684354560=r1:=⟨_,rfl⟩
  have hu:u=q1 * 2684354560 + r1:=by rw [← hr,Nat.add_comm,Nat.sub_add_cancel a2]
  rw [hr] at a3 e3
  rw [hr]
  have b1:=kn3 r1 (lo % 16) t _ rfl e3
  have b2:=kn4 r1 (lo % 16) _ a3 (Nat.mod_lt _ (by decide)) rfl
  have b3:=kn5 t _ q0 b1 e4
  have b4:=kn6 t _ q0 b1 b3
  have b5:=kn7 hi lo u q1 r1 _ e1 hu rfl
  rw [b4,b5]
  exact ⟨a1,a4,a3,a2,kn10 t _ b1 b2,b3 ▸ kn11 _ b2,b3 ▸ kn8 _ _,kn9 _ _⟩
theorem Xty (a b w:Int):(((a % 18446744073709551616 + w) % 18446744073709551616 - b % 18446744073709551616) % 18446744073709551616)=(a + w - b) % 18446744073709551616:=by
  rw [Int.emod_add_emod,← Int.sub_emod]
theorem kd1 (u q1 r w t:Nat) (hq:u=q1 * 2684354560 + r) (ht:t=r * 4294967296 + w) (h4:t < 11529215046068469760):((((u:Int) * 4294967296 % 18446744073709551616 + w) % 18446744073709551616 - (q1:Int) * 11529215046068469760 % 18446744073709551616) % 18446744073709551616)=(t:Int):=by
  rw [Xty]
  have h2:(u:Int) * 4294967296 + w - q1 * 11529215046068469760=t:=by omega
  rw [h2]
  exact Int.emod_eq_of_lt (by omega) (by omega)
theorem kd2 (q0 t:Nat) (h3:q0 * 2684354560 ≤ t) (h5:t - q0 * 2684354560 < 2684354560):((((t:Int) * 4294967296 % 18446744073709551616 + 0) % 18446744073709551616 - (q0:Int) * 11529215046068469760 % 18446744073709551616) % 18446744073709551616 / 1152921504606846976)=(((t - q0 * 2684354560) * 4294967296 / 1152921504606846976:Nat):Int):=by
  rw [Xty]
  obtain ⟨r,hr⟩:∃ r,t - q0 * 2684354560=r:=⟨_,rfl⟩
  have ht:(t:Int)=q0 * 2684354560 + r:=by omega
  rw [hr] at h5 ⊢
  have h2:(t:Int) * 4294967296 + 0 - q0 * 11529215046068469760=r * 4294967296:=by rw [ht]; omega
  have h4:((r:Int) * 4294967296) % 18446744073709551616=r * 4294967296:=Int.emod_eq_of_lt (by omega) (by omega)
  rw [h2,h4]
  rfl
theorem kd3 (u q1:Nat) (h:q1 * 2684354560 ≤ u) (h2:u - q1 * 2684354560 < 2684354560) (h1:q1 < 4294967296):(((u:Int) - (q1:Int) * 2684354560 % 18446744073709551616) % 18446744073709551616)=((u - q1 * 2684354560:Nat):Int):=by omega
theorem Xsu (c g:Bool) (a b:Nat) (ha:a < 10) (hb:b < 1152921504606846976):bin .or c g .int (U ((a * 1152921504606846976:Nat):Int)) (U b)=some (U ((a * 1152921504606846976 + b:Nat):Int)):=by
  have h:=u_or c g a b 60 (by omega)
  simp only [Nat.reducePow] at h
  exact h (by omega) (by omega) (by omega) (by omega)
theorem Xi8 (c g:Bool) (a:Int):bin .shl c g .int (U a) (U 60)=some (U ((a * 1152921504606846976) % 18446744073709551616)):=by
  have h:=Xv7 c g .u64 a 60 (by omega)
  simp only [Int.reducePow] at h
  exact h
theorem Xsb (c g:Bool) (a:Int):bin .shr c g .int (U a) (U 60)=some (U (a / 1152921504606846976)):=by
  have h:=Xpv c g .u64 a 60 (by omega)
  simp only [Int.reducePow] at h
  exact h
theorem Xlw (c g:Bool) (a:Int):bin .shr c g .int (U a) (U 32)=some (U (a / 4294967296)):=by
  have h:=Xpv c g .u64 a 32 (by omega)
  simp only [Int.reducePow] at h
  exact h
theorem Xt1 (c g:Bool) (a:Int):bin .shr c g .int (U a) (U 4)=some (U (a / 16)):=by
  have h:=Xpv c g .u64 a 4 (by omega)
  simp only [Int.reducePow] at h
  exact h
theorem u_eq {a b:Int} (h:a=b):U a=U b:=by rw [h]
theorem Xvl (G:Gt) (q1 q0 t:Nat) (h1:q1 < 4294967296) (h2:q0 < 4294967296) (h3:q0 * 2684354560 ≤ t) (h4:t < 11529215046068469760) (h5:t - q0 * 2684354560 < 2684354560) (m:Mem) :
    Q3i G (U q1) (U q0) (U t) (U 0) (U 11529215046068469760) (U 60) m=some (.tuple ⟨[U ((q1 * 4294967296 + q0:Nat):Int),U (((t - q0 * 2684354560) * 4294967296 / 1152921504606846976:Nat):Int)]⟩,m):=by
  unfold Q3i
  rw [Xar,X0,Xln,X0,Xar,X0,Xln,X0,Xar,X0,Xnr,X0,Xsb,X0]
  rw [u_eq (show (((q1:Int) * 4294967296 % 18446744073709551616 + q0) % 18446744073709551616)=((q1 * 4294967296 + q0:Nat):Int) by omega)]
  rw [u_eq (kd2 q0 t h3 h5)]
theorem Xvk (G:Gt) (k:Nat) (q0:Nat) (r:Int) (p9 p15 p17 p2 p8:Value) (h:q0 < 4294967296) (m:Mem) :
    Q29 G (k + 1) (U q0) (U 0) (U r) (U 0) p9 p15 p17 p2 p8 m=Q3i G p15 (U q0) p17 (U 0) p2 p8 m:=by
  unfold Q29
  rw [Q5u,X0,X8,if_neg (by omega),Xar,X0,Xar,X0,Xln,X0,Q4s,X0,decide_eq_false (by omega)]
  unfold Q7h
  rw [Xb]
theorem Xup (G:Gt) (hG:∃ k,G.rds=k + 1) (u q1 t:Nat) (w:Nat) (r:Nat) (hq:u=q1 * 2684354560 + r) (h1:q1 < 4294967296) (hw:w < 4294967296) (ht:t=r * 4294967296 + w) (h4:t < 11529215046068469760) (m:Mem) :
    Q3j G (U u) (U w) (U q1) (U 11529215046068469760) (U 2684354560) (U 0) (U 0) (U 60) m=some (.tuple ⟨[U ((q1 * 4294967296 + t / 2684354560:Nat):Int),U (((t - t / 2684354560 * 2684354560) * 4294967296 / 1152921504606846976:Nat):Int)]⟩,m):=by
  obtain ⟨k,hk⟩:=hG
  have key:=kd1 u q1 r w t hq ht h4
  clear hq ht
  unfold Q3j
  rw [Xar,X0,Xln,X0,Xar,X0,Xnr,X0]
  rw [u_eq key]
  unfold Qbf
  rw [Xpt _ _ _ _ (by omega) (by omega),X0]
  rw [u_eq (show ((t:Int) / 2684354560)=((t / 2684354560:Nat):Int) by omega)]
  unfold Qbg
  rw [Xar,X0,Xnr,X0]
  unfold Qbh
  rw [hk,Xvk _ _ _ _ _ _ _ _ _ (by omega),Xvl _ _ _ _ h1 (by omega) (by omega) h4 (by omega)]
theorem Xuu (G:Gt) (k:Nat) (q1:Nat) (r:Int) (w:Int) (hr:0 ≤ r∧r < 4294967296) (hw:0 ≤ w∧w < 4294967296) (p9 p11 p2 p8:Value) (h:q1 < 4294967296) (m:Mem) :
    Q2a G (k + 1) (U q1) (U 0) (U r) (U w) p9 p11 p2 (U 0) p8 m=Q3j G p11 (U w) (U q1) p2 p9 (U 0) (U 0) p8 m:=by
  unfold Q2a
  rw [Q5u,X0,X8,if_neg (by omega),Xar,X0,Xar,X0,Xln,X0,Q4s,X0,decide_eq_false (by omega)]
  unfold Q7i
  rw [Xb]
theorem kf1 (hi:Nat) (h:hi < 10):((hi:Int) * 1152921504606846976 % 18446744073709551616)=((hi * 1152921504606846976:Nat):Int):=by omega
theorem kf3 (lo:Nat):((lo:Int) * 1152921504606846976 % 18446744073709551616)=((lo % 16 * 1152921504606846976:Nat):Int):=by
  have h:lo * 1152921504606846976 % (16 * 1152921504606846976)=lo % 16 * 1152921504606846976:=Nat.mul_mod_mul_right _ _ _
  rw [← h]
  rfl
theorem kf4 (x:Nat):(((x * 1152921504606846976:Nat):Int) / 4294967296)=((x * 268435456:Nat):Int):=by
  have h:x * 1152921504606846976 / 4294967296=x * 268435456:=by
    rw [show (1152921504606846976:Nat)=268435456 * 4294967296 from rfl,← Nat.mul_assoc]
    exact Nat.mul_div_cancel _ (by decide)
  rw [← h]
  rfl
theorem kf5 (lo:Nat) (h:lo < 18446744073709551616):lo / 16 < 1152921504606846976:=by omega
theorem kf6 (u:Nat) (h:u < 11529215046068469760):(0:Int) ≤ (u:Int)∧(u:Int) ≤ 18446744073709551615:=by omega
theorem kf8 (x:Nat):(0:Int) ≤ ((x % 16 * 268435456:Nat):Int)∧((x % 16 * 268435456:Nat):Int) < 4294967296:=by omega
theorem kf9 (x:Nat) (h:x < 2684354560):(0:Int) ≤ (x:Int)∧(x:Int) < 4294967296:=by omega
theorem kf10 (x:Nat):x % 16 * 1152921504606846976 < 18446744073709551616∧x % 16 * 268435456 < 4294967296:=by omega
theorem kf11 (x:Nat):x * 1152921504606846976 % 4294967296=0:=by
  rw [show (1152921504606846976:Nat)=268435456 * 4294967296 from rfl,← Nat.mul_assoc]
  exact Nat.mul_mod_left _ _
theorem c_Div64 (hi lo:Nat) (h1:hi < 10) (h2:lo < 18446744073709551616) (d:Nat) (m:Mem):TA (d + 3) Q72 [U hi,U lo,U 10] m=some (.tuple ⟨[U (((hi * 18446744073709551616 + lo) / 10:Nat):Int),U (((hi * 18446744073709551616 + lo) % 10:Nat):Int)]⟩,m):=by
  rw [X9u]
  refine Xq (m1:=X4 m m.next) ?_ (.refl _ _) rfl
  unfold Q58 Qc9
  rw [Qp,X0,X8,if_neg (by omega)]
  unfold Qca
  rw [Q7y,X0,X8,if_neg (by omega)]
  unfold Qcb
  rw [Qp,X0,X8]
  by_cases h0:(hi:Int)=0
  . rw [if_pos h0,Xpt _ _ _ _ (by omega) (by omega),X0,Xti _ _ _ _ (by omega) (by omega),X0]
    rw [u_eq (show ((lo:Int) / 10)=(((hi * 18446744073709551616 + lo) / 10:Nat):Int) by omega)]
    rw [u_eq (show ((lo:Int) % 10)=(((hi * 18446744073709551616 + lo) % 10:Nat):Int) by omega)]
  . rw [if_neg h0]
    obtain ⟨u,e1⟩:∃ u,u=hi * 1152921504606846976 + lo / 16:=⟨_,rfl⟩
    obtain ⟨q1,e2⟩:∃ q1,q1=u / 2684354560:=⟨_,rfl⟩
    obtain ⟨t,e4⟩:∃ t,t=(u - q1 * 2684354560) * 4294967296 + lo % 16 * 268435456:=⟨_,rfl⟩
    obtain ⟨q0,e6⟩:∃ q0,q0=t / 2684354560:=⟨_,rfl⟩
    obtain ⟨e0,e3,e3a,e3b,e5,e7,e8,e9⟩:=Xrw hi lo u q1 t q0 h1 h2 e1 e2 e4 e6
    have k1:(((u:Int) - (q1:Int) * 2684354560 % 18446744073709551616) % 18446744073709551616)=((u - q1 * 2684354560:Nat):Int):=kd3 u q1 e3b e3a e3
    have k2:u=q1 * 2684354560 + (u - q1 * 2684354560):=by rw [Nat.add_comm,Nat.sub_add_cancel e3b]
    rw [← e8,← e9]
    unfold Qcc
    dsimp only
    have hl:TA (d + 2) Q2b [U 10] (X4 m m.next)=_:=c_Lz10 d _
    rw [hl,X5,c_int,X5,IntWalk.u64_in _ (by decide)]
    unfold Qcd
    rw [Xi8,X0,u_eq (show ((10:Int) * 1152921504606846976 % 18446744073709551616)=11529215046068469760 from rfl)]
    unfold Qce
    rw [Xlw,X0,u_eq (show ((11529215046068469760:Int) / 4294967296)=2684354560 from rfl)]
    unfold Qcf
    have ha:bin .and true true .int (U 11529215046068469760) (U 4294967295)=some (U 0):=(Xrz true true 11529215046068469760 4294967295 (by decide) (by decide)).trans (congrArg (fun n:Nat=>some (U (n:Int))) ((mask32 11529215046068469760).trans rfl))
    rw [ha,X0]
    unfold Qcg
    rw [Xi8,X0,Xnr,X0,u_eq (show (((64:Int) - 60) % 18446744073709551616)=4 from rfl),Xt1,X0]
    rw [u_eq (show ((hi:Int) * 1152921504606846976 % 18446744073709551616)=((hi * 1152921504606846976:Nat):Int) from kf1 hi h1)]
    rw [u_eq (show ((lo:Int) / 16)=((lo / 16:Nat):Int) from rfl)]
    rw [Xsu _ _ hi (lo / 16) h1 (kf5 lo h2),X0,← e1]
    unfold Qch
    rw [Xi8,X0]
    rw [u_eq (show ((lo:Int) * 1152921504606846976 % 18446744073709551616)=((lo % 16 * 1152921504606846976:Nat):Int) from kf3 lo)]
    unfold Qci
    rw [Xlw,X0]
    rw [u_eq (show (((lo % 16 * 1152921504606846976:Nat):Int) / 4294967296)=((lo % 16 * 268435456:Nat):Int) from kf4 _)]
    unfold Qbi
    have hm:bin .and true true .int (U ((lo % 16 * 1152921504606846976:Nat):Int)) (U 4294967295)=some (U 0):=(Xrz true true (lo % 16 * 1152921504606846976) 4294967295 (kf10 lo).1 (by decide)).trans (congrArg (fun n:Nat=>some (U (n:Int))) ((mask32 _).trans (kf11 _)))
    rw [hm,X0]
    unfold Qbj
    rw [Xpt _ _ _ _ (kf6 u e0) (by decide),X0,u_eq (show ((u:Int) / 2684354560)=(q1:Int) by rw [e2]; rfl)]
    unfold Qbk
    rw [Xar,X0,Xnr,X0,u_eq k1]
    unfold Qbl
    rw [show (⟨TA (d + 2),18446744073709551616⟩:Gt).rds=18446744073709551615 + 1 from rfl,Xuu _ _ q1 _ _ (kf9 _ e3a) (kf8 lo) _ _ _ _ e3,Xup _ ⟨18446744073709551615,rfl⟩ u q1 t (lo % 16 * 268435456) _ k2 e3 (kf10 lo).2 e4 e5]
    subst e6
    rfl
end Go.Ab.Sh

set_option maxRecDepth 100000
set_option linter.unusedSimpArgs false
set_option linter.unusedVariables false
namespace Go.Ab.Sh
open Go Go.Ab Go.Lib
theorem Xko (G:Gt) (B:Nat) (v:Value):∀ (n:Nat) (mid pre post:Str) (k:Nat) (m:Mem),mid.length ≤ n→mid.length < k→pre.length + mid.length + post.length ≤ 1000000 →
    GA B m v ((pre ++ mid ++ post).map by8)→∃ m2,Q1e G k (I pre.length) (I ((pre.length:Int) + mid.length - 1)) v m=some (.tuple ⟨[]⟩,m2)∧Fb B m m2∧m2.next=m.next∧GA B m2 v ((pre ++ mid.reverse ++ post).map by8)∧∀ b,(∃ len r,v=.slice (some ⟨b,0,some 1⟩) len r)∨m2.get b=m.get b
  | n,mid,pre,post,k,m,hn,hk,hl,hG=>by
    obtain ⟨k,rfl⟩:∃ q,k=q + 1:=⟨k - 1,by omega⟩
    unfold Q1e
    rw [Qf,X0,X8]
    by_cases h2:2 ≤ mid.length
    . rw [if_pos (by omega)]
      obtain ⟨a,mid',b,rfl⟩:∃ a mid' b,mid=a :: (mid' ++ [b]):=by
        cases mid with
        | nil=>simp at h2
        | cons a t =>
          have:t ≠ []:=by intro h; subst h; simp at h2
          exact ⟨a,t.dropLast,t.getLast this,by rw [List.dropLast_concat_getLast]⟩
      have hml:(a :: (mid' ++ [b])).length=mid'.length + 2:=by simp
      rw [hml] at hn hk hl h2 ⊢
      have ej:((pre.length:Int) + ((mid'.length + 2:Nat):Int) - 1)=((pre.length + 1 + mid'.length:Nat):Int):=by omega
      rw [ej]
      have gi:((pre ++ a :: (mid' ++ [b]) ++ post).map by8)[pre.length]?=some (by8 a):=by
        rw [List.getElem?_map,List.append_assoc,List.getElem?_append_right (Nat.le_refl _),Nat.sub_self]; rfl
      have gj:((pre ++ a :: (mid' ++ [b]) ++ post).map by8)[pre.length + 1 + mid'.length]?=some (by8 b):=by
        rw [List.getElem?_map,show pre ++ a :: (mid' ++ [b]) ++ post=(pre ++ a :: mid') ++ b :: post by simp,List.getElem?_append_right (by simp; omega)]
        have:pre.length + 1 + mid'.length - (pre ++ a :: mid').length=0:=by simp; omega
        rw [this]; rfl
      obtain ⟨pj,j1,j2,j3⟩:=hG.at gj
      obtain ⟨p,i1,i2,i3⟩:=hG.at gi
      obtain ⟨m1,s1,s2,s3,s4,s5⟩:=i3 (by8 b) rfl rfl rfl
      have gj':(((pre ++ a :: (mid' ++ [b]) ++ post).map by8).set pre.length (by8 b))[pre.length + 1 + mid'.length]?=some (by8 b):=by
        rw [List.getElem?_set_ne (by omega)]; exact gj
      obtain ⟨pj',j1',_,j3'⟩:=s4.at gj'
      rw [j1] at j1'
      cases j1'
      obtain ⟨m2,t1,t2,t3,t4,t5⟩:=j3' (by8 a) rfl rfl rfl
      have hset:(((pre ++ a :: (mid' ++ [b]) ++ post).map by8).set pre.length (by8 b)).set (pre.length + 1 + mid'.length) (by8 a)=((pre ++ [b]) ++ mid' ++ (a :: post)).map by8:=by
        have e1:((pre ++ a :: (mid' ++ [b]) ++ post).map by8).set pre.length (by8 b)=(pre ++ b :: (mid' ++ [b]) ++ post).map by8:=by
          rw [List.append_assoc,List.map_append,List.set_append_right _ _ (by simp)]
          simp
        rw [e1,show pre ++ b :: (mid' ++ [b]) ++ post=(pre ++ b :: mid') ++ b :: post by simp,List.map_append,List.set_append_right _ _ (by simp; omega)]
        have:pre.length + 1 + mid'.length - ((pre ++ b :: mid').map by8).length=0:=by simp; omega
        rw [this]
        simp
      rw [hset] at t4
      have w1:IntKind.i64.wrap ((pre.length:Int) + 1)=((pre ++ [b]).length:Int):=by rw [IntWalk.i64_in _ (by omega)]; simp
      have w2:IntKind.i64.wrap (((pre.length + 1 + mid'.length:Nat):Int) - 1)=((pre ++ [b]).length:Int) + mid'.length - 1:=by rw [IntWalk.i64_in _ (by omega)]; simp
      obtain ⟨m3,r1,r2,r3,r4,r5⟩:=Xko G B v (n - 1) mid' (pre ++ [b]) (a :: post) k m2 (by omega) (by omega) (by simp; omega) t4
      refine ⟨m3,?_,(s2.trans t2).trans r2,by omega,?_,?_⟩
      . rw [j1,X0,j2,X0,i1,X0,i2,X0,X0,s1,Xe,X0,t1,Xe,Qz,X0,Q9t,X0,w1,w2]
        exact r1
      . have:pre ++ (a :: (mid' ++ [b])).reverse ++ post=(pre ++ [b]) ++ mid'.reverse ++ (a :: post):=by simp
        rw [this]; exact r4
      . intro c
        rcases s5 c with h | h
        . exact .inl h
        . rcases t5 c with h' | h'
          . exact .inl h'
          . rcases r5 c with h'' | h''
            . exact .inl h''
            . exact .inr (h''.trans (h'.trans h))
    . rw [if_neg (by omega)]
      have hr:mid.reverse=mid:=by
        cases mid with
        | nil=>rfl
        | cons a t =>
          cases t with
          | nil=>rfl
          | cons=>simp at h2
      rw [hr]
      exact ⟨m,rfl,.refl _ _,rfl,hG,fun _=>.inr rfl⟩
  termination_by n=>n
theorem c_Reverse (l:Str) (hl:l.length ≤ 1000000) (B:Nat) (v:Value) (m:Mem) (hB:B ≤ m.next) (hG:GA B m v (l.map by8)) (d:Nat) :
    ∃ m2,TA (d + 1) Q1s [v] m=some (.tuple ⟨[]⟩,m2)∧Fb B m m2∧m2.next=m.next∧GA B m2 v (l.reverse.map by8):=by
  rw [X37]
  have hG':GA B (X4 m m.next) v (([] ++ l ++ []:Str).map by8):=by
    rw [List.nil_append,List.append_nil]
    exact hG.fb (Nat.le_refl _) fun _ _ _=>rfl
  obtain ⟨m1,r1,r2,r3,r4,r5⟩:=Xko ⟨TA d,18446744073709551616⟩ B v l.length l [] [] 18446744073709551616 (X4 m m.next) (Nat.le_refl _) (by omega) (by simpa using hl) hG'
  have r3:m1.next=m.next:=r3
  have hx:Qu ⟨TA d,18446744073709551616⟩ v (X4 m m.next)=some (.tuple ⟨[]⟩,m1):=by
    unfold Qu Q4q
    rw [hG.len,X0,Q9t,X0,IntWalk.i64_in _ (by rw [List.length_map]; omega),List.length_map]
    have e:((([]:Str).length:Int) + l.length - 1)=(l.length:Int) - 1:=by simp
    rw [e] at r1
    exact r1
  have hw:m1.low < m.next∨(m1.next=m.next∧∀ b,m1.get b=m.get b):=by
    by_cases hlow:m1.low < m.next
    . exact .inl hlow
    . refine .inr ⟨r3,fun b=>?_⟩
      rcases r5 b with ⟨len,r,hv⟩ | h
      . have hb:b < m.next:=by
          rcases hG with ⟨_,h2⟩ | ⟨_,b',ver,r',ty,_,h2,_,h4,_⟩
          . rw [h2] at hv; cases hv
          . rw [h2] at hv; cases hv; exact h4
        rcases r2.lo b hb with q | q
        . omega
        . exact q
      . exact h
  obtain ⟨m2,k1,k2,k3,k4⟩:=Fb.call (.tuple ⟨[]⟩) r2 hB hw
  refine ⟨m2,by rw [hx]; simp only [outOf,k1],k2,k3.trans r3,?_⟩
  have r4':GA B m1 v (l.reverse.map by8):=by simpa using r4
  exact r4'.fb (by omega) fun b _ _=>k4 b
end Go.Ab.Sh

set_option maxRecDepth 100000
set_option linter.unusedSimpArgs false
set_option linter.unusedVariables false
namespace Go.Ab.Sh
open Go Go.Ab Go.Lib
theorem Fb.le {B B':Nat} {m m':Mem} (h:Fb B' m m') (hb:B ≤ B'):Fb B m m':=
  ⟨h.next,h.low,fun x h1 h2=>h.low2 x h1 (Nat.le_trans h2 hb),fun b h1=>h.get b (Nat.lt_of_lt_of_le h1 hb),h.lo⟩
abbrev dig (n:Nat):UInt8:=UInt8.ofNat (48 + n % 10)
theorem Xra (N:Nat):(decDigits N).reverse=dig N :: (if N / 10=0 then [] else (decDigits (N / 10)).reverse):=by
  by_cases h:N < 10
  . rw [X2l h,if_pos (by omega)]
    have:N % 10=N:=Nat.mod_eq_of_lt h
    simp [dig,this]
  . rw [X5c h,if_neg (by omega)]
    simp [dig]
noncomputable abbrev tyC:Option Nat:=some (2 * Q7k + 1)
theorem Xva (a b:Int):Xn Qj1 [(0,1),(1,1)] [(0,U a),(1,U b)]=some (.agg ⟨[U a,U b]⟩):=Eq.trans rfl rfl
theorem ad1 (hi lo:Nat):(hi % 10 * 18446744073709551616 + lo) % 10=(hi * 18446744073709551616 + lo) % 10:=by omega
theorem ad2 (hi lo:Nat) (h:lo < 18446744073709551616):(hi / 10) * 18446744073709551616 + (hi % 10 * 18446744073709551616 + lo) / 10=(hi * 18446744073709551616 + lo) / 10∧(hi % 10 * 18446744073709551616 + lo) / 10 < 18446744073709551616:=by omega
theorem ad3 (hi:Nat) (h:hi < 18446744073709551616):(0:Int) ≤ (hi:Int)∧(hi:Int) ≤ 18446744073709551615:=by omega
theorem ad4 (hi:Nat) (h:hi < 18446744073709551616):hi / 10 < 18446744073709551616:=by omega
theorem Xjo (G:Gt) (k B hi lo:Nat) (v:Value) (pre:Str) (m:Mem) (hg:m.get B=some (.cells [U hi,U lo] 0 0 false tyC)) (hv:GA (B + 1) m v (pre.map by8)) :
    Q1b G (k + 1) (pt B 0 0) v m=Q2n G (Q1b G k) (.bool (decide (0 < hi∨0 < lo∨pre=[]))) (pt B 0 0) v m:=by
  have x0:X6 false 1 (pt B (0 + 0) 0) m=some (U hi):=Xo hg rfl
  have x1:X6 false 1 (pt B (0 + 1) 0) m=some (U lo):=Xo hg rfl
  rw [Q1b]
  rw [Xg,X0,x0,X0,Q4s,X0,X8]
  by_cases h0:0 < hi
  . rw [if_pos (by omega),decide_eq_true (.inl h0)]
  . rw [if_neg (by omega),Xg,X0,x1,X0,Q4s,X0,X8]
    by_cases h1:0 < lo
    . rw [if_pos (by omega),decide_eq_true (.inr (.inl h1))]
    . rw [if_neg (by omega),hv.len,X0,Qp,X0]
      have e:decide ((((pre.map by8).length:Nat):Int)=0)=decide (0 < hi∨0 < lo∨pre=[]):=by
        rw [decide_eq_decide,List.length_map]
        constructor
        . intro h
          exact .inr (.inr (List.length_eq_zero_iff.mp (by omega)))
        . rintro (h | h | h)
          . exact absurd h h0
          . exact absurd h h1
          . subst h; rfl
      rw [e]
theorem Xp0 (d B hi lo:Nat) (v:Value) (pre:Str) (m:Mem) (k0:Value→Value→Mem→Option Rs) (hB:B < m.next) (h1:hi < 18446744073709551616) (h2:lo < 18446744073709551616) (hl:pre.length ≤ 1000)
    (hg:m.get B=some (.cells [U hi,U lo] 0 0 false tyC)) (hv:GA (B + 1) m v (pre.map by8)) :
    ∃ v' m',Q2n ⟨TA (d + 3),18446744073709551616⟩ k0 (.bool true) (pt B 0 0) v m=k0 (pt B 0 0) v' m'∧Fb B m m'∧GA (B + 1) m' v' ((pre ++ [dig (hi * 18446744073709551616 + lo)]).map by8) ∧
      m'.get B=some (.cells [U ((hi / 10:Nat):Int),U (((hi % 10 * 18446744073709551616 + lo) / 10:Nat):Int)] 0 0 false tyC):=by
  have x0:X6 false 1 (pt B (0 + 0) 0) m=some (U hi):=Xo hg rfl
  have x1:X6 false 1 (pt B (0 + 1) 0) m=some (U lo):=Xo hg rfl
  have cd:TA (d + 3) Q72 [U ((hi % 10:Nat):Int),U lo,.int .u64 10] m=_:=c_Div64 (hi % 10) lo (Nat.mod_lt _ (by decide)) h2 d m
  obtain ⟨m2,s1,s2⟩:=X3g (o:=0) (n:=2) (v:=.agg ⟨[U ((hi / 10:Nat):Int),U (((hi % 10 * 18446744073709551616 + lo) / 10:Nat):Int)]⟩) (c':=[U ((hi / 10:Nat):Int),U (((hi % 10 * 18446744073709551616 + lo) / 10:Nat):Int)]) hg rfl (Nat.zero_le _) (Nat.le_refl _) rfl rfl
  have f2:Fb B m m2:=((Fb.refl B m).put _ (Nat.le_refl _)).meq s2
  have n2:m2.next=m.next:=by rw [s2.next,Mem.next_put]
  have g2:m2.get B=some (.cells [U ((hi / 10:Nat):Int),U (((hi % 10 * 18446744073709551616 + lo) / 10:Nat):Int)] 0 0 false tyC):=by rw [s2.get,Mem.get_put,if_pos rfl]
  have v2:GA (B + 1) m2 v (pre.map by8):=hv.fb (by omega) fun b hb _=>by rw [s2.get,Mem.get_put,if_neg (by omega)]
  obtain ⟨m3,v',m',a1,a2,a3,a4⟩:=v2.app (e:=Qe5) (bytes:=1) (by omega) (fun k hk=>by
    rw [List.length_map] at hk
    simp only [fits,Bool.and_eq_true,Nat.ble_eq]; omega) (.int .u8 0) (by8 (dig (hi * 18446744073709551616 + lo))) ⟨_,_,rfl⟩ ⟨_,_,rfl⟩
  refine ⟨v',m',?_,f2.trans (Fb.le a3 (by omega)),by rw [List.map_append]; exact a4,by rw [a3.get B (by omega)]; exact g2⟩
  unfold Q2n
  rw [Xd,Xg,X0,x0,X0,Xpt _ _ _ _ (ad3 hi h1) (by decide),X0,X0,x0,X0,Xti _ _ _ _ (ad3 hi h1).1 (by decide),X0,Xg,X0,x1,X0]
  have e1:U ((hi:Int) % 10)=U ((hi % 10:Nat):Int):=rfl
  have e2:U ((hi:Int) / 10)=U ((hi / 10:Nat):Int):=rfl
  rw [e1,e2]
  dsimp only
  rw [cd,X5,ex0,X0,ex1,X0,Xva,X0,s1,Xe,Xln,X0,c_int,X5]
  have e3:Value.int .u8 (IntKind.u8.wrap ((48 + (((hi % 10 * 18446744073709551616 + lo) % 10:Nat):Int)) % 18446744073709551616))=by8 (dig (hi * 18446744073709551616 + lo)):=by
    rw [ad1]
    have hd:=Nat.mod_lt (hi * 18446744073709551616 + lo) (by decide:10 > 0)
    show _=Value.int .u8 (((UInt8.ofNat (48 + (hi * 18446744073709551616 + lo) % 10)).toNat:Nat):Int)
    rw [Xgh _ hd]
    generalize (hi * 18446744073709551616 + lo) % 10=r at hd
    rw [IntWalk.u8_in _ (by omega)]
    congr 1
    omega
  rw [e3,a1,X5,a2,X5]
theorem Xoy (G:Gt) (k B:Nat) (v:Value) (pre:Str) (m:Mem) (k0:Value→Value→Mem→Option Rs):Q2n G k0 (.bool false) (pt B 0 0) v m=Q8h G v m:=by
  unfold Q2n
  rw [Xb]
theorem ad5 {hi lo N:Nat} (hN:N=hi * 18446744073709551616 + lo) (h:0 < N):0 < hi∨0 < lo:=by omega
theorem ad6 {hi L N:Nat} (hN:hi * 18446744073709551616 + L=N) (h:N=0):¬ (0 < hi)∧¬ (0 < L):=by omega
theorem ad7 {N p:Nat} (h:N < p * 10):N / 10 < p:=by omega
theorem Xkc (d B:Nat):∀ (j hi lo N:Nat) (v:Value) (pre:Str) (m:Mem) (k:Nat),N=hi * 18446744073709551616 + lo→B < m.next→hi < 18446744073709551616→lo < 18446744073709551616→N < 10 ^ j→pre.length + j ≤ 900→j + 2 ≤ k →
    m.get B=some (.cells [U hi,U lo] 0 0 false tyC)→GA (B + 1) m v (pre.map by8)→(pre=[]∨0 < N) →
    ∃ v' m',Q1b ⟨TA (d + 3),18446744073709551616⟩ k (pt B 0 0) v m=Q8h ⟨TA (d + 3),18446744073709551616⟩ v' m'∧Fb B m m'∧GA (B + 1) m' v' ((pre ++ (decDigits N).reverse).map by8)
  | j,hi,lo,N,v,pre,m,k,hN,hB,h1,h2,hj,hl,hk,hg,hv,hp=>by
    obtain ⟨k,rfl⟩:∃ q,k=q + 1:=⟨k - 1,by omega⟩
    rw [Xjo _ k B hi lo v pre m hg hv,decide_eq_true (by
      rcases hp with h | h
      . exact .inr (.inr h)
      . rcases ad5 hN h with h | h
        . exact .inl h
        . exact .inr (.inl h))]
    obtain ⟨v1,m1,q1,q2,q3,q4⟩:=Xp0 d B hi lo v pre m (Q1b ⟨TA (d + 3),18446744073709551616⟩ k) hB h1 h2 (by omega) hg hv
    obtain ⟨e1,e2⟩:=ad2 hi lo h2
    rw [q1,Xra]
    rw [← hN] at e1 q3
    obtain ⟨L,hL⟩:∃ L,L=(hi % 10 * 18446744073709551616 + lo) / 10:=⟨_,rfl⟩
    rw [← hL] at e1 e2 q4
    clear hL hN q1
    by_cases h0:N / 10=0
    . rw [if_pos h0]
      obtain ⟨k,rfl⟩:∃ q,k=q + 1:=⟨k - 1,by omega⟩
      obtain ⟨c1,c2⟩:=ad6 e1 h0
      rw [Xjo _ k B (hi / 10) L v1 _ m1 q4 q3,decide_eq_false (by
        rintro (h | h | h)
        . exact c1 h
        . exact c2 h
        . simp at h),Xoy _ k B v1 pre]
      exact ⟨v1,m1,rfl,q2,q3⟩
    . rw [if_neg h0]
      obtain ⟨j,rfl⟩:∃ q,j=q + 1:=⟨j - 1,by
        cases j with
        | zero =>
          have:N=0:=by simpa using hj
          subst this
          exact absurd rfl h0
        | succ j=>rfl⟩
      rw [Nat.pow_succ] at hj
      obtain ⟨v',m',r1,r2,r3⟩:=Xkc d B j (hi / 10) L (N / 10) v1 (pre ++ [dig N]) m1 k e1.symm (Nat.lt_of_lt_of_le hB q2.next) (ad4 hi h1) e2 (ad7 hj) (by rw [List.length_append,List.length_cons,List.length_nil]; omega) (by omega) q4 q3 (.inr (by omega))
      refine ⟨v',m',r1,q2.trans r2,?_⟩
      simpa using r3
  termination_by j=>j
theorem lt39 (hi lo:Nat) (h1:hi < 18446744073709551616) (h2:lo < 18446744073709551616):hi * 18446744073709551616 + lo < 10 ^ 39:=by
  have h:hi * 18446744073709551616 + lo < 1000000000000000000000000000000000000000:=by omega
  exact Nat.lt_of_lt_of_eq h (by decide)
theorem le41:39 + 2 ≤ 18446744073709551616:=by omega
theorem c_askDecimal (hi lo:Nat) (h1:hi < 18446744073709551616) (h2:lo < 18446744073709551616) (d:Nat) (m:Mem) :
    TA (d + 4) Qbo [.agg ⟨[U hi,U lo]⟩] m=some (sv (decDigits (hi * 18446744073709551616 + lo)),m):=by
  rw [Xds]
  let M:=(X4 m m.next).push (.cells [U hi,U lo] 0 0 false tyC)
  have g0:M.get m.next=some (.cells [U hi,U lo] 0 0 false tyC):=Xl (X4 m m.next) _
  have F0:Fb m.next (X4 m m.next) M:=Fb.push _ (Nat.le_refl _)
  obtain ⟨v',m',r1,r2,r3⟩:=Xkc d m.next 39 hi lo _ (.slice none 0 0) [] M 18446744073709551616 rfl (by show m.next < m.next + 1; omega) h1 h2 (lt39 hi lo h1 h2) (by decide) le41 g0 (.inl ⟨rfl,rfl⟩) (.inl rfl)
  have hlen:([] ++ (decDigits (hi * 18446744073709551616 + lo)).reverse:Str).length ≤ 1000000:=by
    have:=Xep (hi * 18446744073709551616 + lo) 39 (by decide) (lt39 hi lo h1 h2)
    rw [List.nil_append,List.length_reverse]; omega
  obtain ⟨m2,t1,t2,t3,t4⟩:=c_Reverse _ hlen (m.next + 1) v' m' (by have:=r2.next; exact this) r3 (d + 2)
  rw [List.nil_append,List.reverse_reverse] at t4
  refine Xq (m1:=m2) ?_ (F0.trans (r2.trans (Fb.le t2 (by omega)))) rfl
  have hcs:(Value.cells (.agg ⟨[U hi,U lo]⟩)).toList=[U hi,U lo]:=rfl
  unfold Q8a Qeq Qep
  rw [hcs,Xh]
  show Q1b ⟨TA (d + 3),18446744073709551616⟩ 18446744073709551616 (pt m.next 0 0) (.slice none 0 0) M=_
  rw [r1]
  unfold Q8h
  have t1:TA (d + 3) Q1s [v'] m'=_:=t1
  dsimp only
  rw [t1,X5,t4.conv,X5]
end Go.Ab.Sh

set_option maxRecDepth 100000
set_option linter.unusedSimpArgs false
set_option linter.unusedVariables false
namespace Go.Ab.Sh
open Go Go.Ab Go.Lib
abbrev nI (n:Nat):Value:=I (n:Int)
abbrev dg1 (n:Nat):UInt8:=UInt8.ofNat (48 + n)
def dl (N:Nat):List Nat:=if h:N < 10 then [N] else N % 10 :: dl (N / 10)
termination_by N
decreasing_by omega
theorem X6d {N:Nat} (h:N < 10):dl N=[N]:=by rw [dl,dif_pos h]
theorem Xgo {N:Nat} (h:¬ N < 10):dl N=N % 10 :: dl (N / 10):=by rw [dl,dif_neg h]
theorem Xta:∀ N,∀ x ∈ dl N,x < 10:=by
  intro N
  induction N using Nat.strongRecOn with
  | _ N ih =>
    intro x hx
    by_cases h:N < 10
    . rw [X6d h] at hx; simp at hx; omega
    . rw [Xgo h] at hx
      rcases List.mem_cons.mp hx with e | e
      . omega
      . exact ih (N / 10) (by omega) x e
theorem Xqi:∀ N,decDigits N=((dl N).map dg1).reverse:=by
  intro N
  induction N using Nat.strongRecOn with
  | _ N ih =>
    by_cases h:N < 10
    . rw [X6d h,X2l h]; rfl
    . rw [Xgo h,X5c h,ih (N / 10) (by omega)]; simp
theorem Xso (N:Nat):(dl N).length=(decDigits N).length:=by rw [Xqi]; simp
def got:Nat→List Nat→List Nat
  | _,[]=>[]
  | c,x :: r=>(2 * x + c) % 10 :: got ((2 * x + c) / 10) r
def goc:Nat→List Nat→Nat
  | c,[]=>c
  | c,x :: r=>goc ((2 * x + c) / 10) r
def car (c:Nat):List Nat:=if 0 < c then [c] else []
theorem car0 {c:Nat} (h:¬ 0 < c):car c=[]:=by rw [car,if_neg h]
theorem car1 {c:Nat} (h:0 < c):car c=[c]:=by rw [car,if_pos h]
theorem Xu8:∀ N c,c ≤ 1→got c (dl N) ++ car (goc c (dl N))=dl (2 * N + c):=by
  intro N
  induction N using Nat.strongRecOn with
  | _ N ih =>
    intro c hc
    by_cases h:N < 10
    . rw [X6d h]
      by_cases h2:2 * N + c < 10
      . rw [X6d h2]
        simp only [got,goc]
        rw [car0 (by omega),Nat.mod_eq_of_lt h2]; rfl
      . rw [Xgo h2]
        simp only [got,goc]
        rw [car1 (by omega),X6d (by omega)]; rfl
    . rw [Xgo h,Xgo (by omega:¬ 2 * N + c < 10)]
      simp only [got,goc]
      rw [List.cons_append,ih (N / 10) (by omega) _ (by omega)]
      have e1:(2 * (N % 10) + c) % 10=(2 * N + c) % 10:=by omega
      have e2:2 * (N / 10) + (2 * (N % 10) + c) / 10=(2 * N + c) / 10:=by omega
      rw [e1,e2]
theorem Xma:∀ (l:List Nat) (c:Nat),(got c l).length=l.length
  | [],_=>rfl
  | x :: l,c=>by simp only [got,List.length_cons,Xma l]
theorem Xid {x y:Nat} (pre r:List Nat):((pre ++ x :: r).map nI).set pre.length (nI y)=((pre ++ [y]) ++ r).map nI:=by
  rw [List.map_append,List.set_append_right _ _ (by simp)]
  simp
theorem Xm9 (G:Gt) (B:Nat) (v:Value) (k0:Value→Value→Value→Mem→Option Rs) (p4 p1:Value):∀ (ds pre:List Nat) (c k:Nat) (m:Mem),(∀ x ∈ ds,x < 10)→c ≤ 1→ds.length < k→pre.length + ds.length ≤ 1000→GA B m v ((pre ++ ds).map nI) →
    ∃ m',Q1q G k0 k (nI pre.length) v (nI c) p4 p1 m=Q2p G k0 (nI (goc c ds)) v p4 p1 m'∧Fb B m m'∧m'.next=m.next∧GA B m' v ((pre ++ got c ds).map nI)
  | [],pre,c,k,m,_,hc,hk,hl,hG=>by
    obtain ⟨k,rfl⟩:∃ q,k=q + 1:=⟨k - 1,by omega⟩
    refine ⟨m,?_,.refl _ _,rfl,hG⟩
    rw [Q1q,hG.len,X0,Qf,X0,X8,if_neg (by simp)]
    rfl
  | x :: r,pre,c,k,m,hd,hc,hk,hl,hG=>by
    obtain ⟨k,rfl⟩:∃ q,k=q + 1:=⟨k - 1,by omega⟩
    have hx:=hd x List.mem_cons_self
    have gi:((pre ++ x :: r).map nI)[pre.length]?=some (nI x):=by
      rw [List.getElem?_map,List.getElem?_append_right (Nat.le_refl _),Nat.sub_self]; rfl
    obtain ⟨p,i1,i2,i3⟩:=hG.at gi
    obtain ⟨m1,s1,s2,s3,s4,_⟩:=i3 (nI ((2 * x + c) % 10)) rfl rfl rfl
    rw [Xid] at s4
    obtain ⟨m2,r1,r2,r3,r4⟩:=Xm9 G B v k0 p4 p1 r (pre ++ [(2 * x + c) % 10]) ((2 * x + c) / 10) k m1 (fun y hy=>hd y (List.mem_cons_of_mem _ hy)) (by omega) (by simp at hk; omega) (by simp at hl ⊢; omega) s4
    refine ⟨m2,?_,s2.trans r2,r3.trans s3,by simpa [got] using r4⟩
    have w1:IntKind.i64.wrap (2 * (x:Int))=((2 * x:Nat):Int):=by rw [IntWalk.i64_in _ (by omega)]; omega
    have w2:IntKind.i64.wrap (((2 * x:Nat):Int) + (c:Int))=((2 * x + c:Nat):Int):=by rw [IntWalk.i64_in _ (by omega)]; omega
    have w3:(((2 * x + c:Nat):Int)).tmod 10=(((2 * x + c) % 10:Nat):Int):=Xoc _ 10
    have w4:IntKind.i64.wrap ((((2 * x + c:Nat):Int)).tdiv 10)=(((2 * x + c) / 10:Nat):Int):=by rw [show (((2 * x + c:Nat):Int)).tdiv 10=(((2 * x + c) / 10:Nat):Int) from Xpy _ 10,IntWalk.i64_in _ (by omega)]
    have w5:IntKind.i64.wrap ((pre.length:Int) + 1)=((pre ++ [(2 * x + c) % 10]).length:Int):=by rw [IntWalk.i64_in _ (by simp at hl; omega)]; simp
    rw [Q1q,hG.len,X0,Qf,X0,X8,if_pos (by simp; omega),i1,X0,i2,X0,Qik,w1,X0,Qz,w2,X0,Qhf _ _ _ _ _ (by decide),w3,X0,X0,s1,Xe,Qhe _ _ _ _ _ (by decide),w4,X0,Qz,w5,X0]
    exact r1
theorem Xv9 (G:Gt) (B:Nat) (v:Value) (k0:Value→Value→Value→Mem→Option Rs) (p4 p1:Value) (xs:List Nat) (c:Nat) (m:Mem) (hB:B ≤ m.next) (hl:xs.length ≤ 1000) (hG:GA B m v (xs.map nI)) :
    ∃ v' m',Q2p G k0 (nI c) v p4 p1 m=Q2o G k0 p4 p1 v' m'∧Fb B m m'∧GA B m' v' ((xs ++ car c).map nI):=by
  unfold Q2p
  rw [Q4s,X0,X8]
  by_cases h:0 < c
  . obtain ⟨m2,v',m',a1,a2,a3,a4⟩:=hG.app (e:=Qgq) (bytes:=8) hB (fun k hk=>by
      rw [List.length_map] at hk
      simp only [fits,Bool.and_eq_true,Nat.ble_eq]; omega) (.int .i64 0) (nI c) ⟨_,_,rfl⟩ ⟨_,_,rfl⟩
    rw [if_pos (by omega),car1 h,a1,X5,a2,X5]
    exact ⟨v',m',rfl,a3,by rw [List.map_append]; exact a4⟩
  . rw [if_neg (by omega),car0 h]
    exact ⟨v,m,rfl,.refl _ _,by rw [List.append_nil]; exact hG⟩
theorem Xtl (c g:Bool) (a n:Nat) (hn:n ≤ 64):bin .shr c g .int (U a) (I n)=some (U ((a / 2 ^ n:Nat):Int)):=by
  rw [Xpv c g .i64 a n hn]
  congr 2
theorem Xqg (c g:Bool) (a:Nat) (ha:a < 18446744073709551616):bin .and c g .int (U a) (.int .u64 1)=some (U ((a % 2:Nat):Int)):=by
  have:=Xrz c g a 1 ha (by decide)
  rw [Nat.and_one_is_mod] at this
  exact this
theorem Xt5 (hi lo n:Nat) (h2:lo < 2 ^ 64):(hi * 2 ^ 64 + lo) / 2 ^ (64 + n)=hi / 2 ^ n:=by
  rw [Nat.pow_add,← Nat.div_div_eq_div_mul]
  congr 1
  rw [Nat.mul_comm,Nat.mul_add_div (Nat.two_pow_pos 64),Nat.div_eq_of_lt h2,Nat.add_zero]
theorem Xue (hi lo n:Nat) (hn:n < 64):(hi * 2 ^ 64 + lo) / 2 ^ n % 2=lo / 2 ^ n % 2:=by
  have e:(2:Nat) ^ 64=2 ^ n * (2 ^ (63 - n) * 2):=by
    rw [← Nat.pow_succ,← Nat.pow_add]
    congr 1
    omega
  rw [e,Nat.mul_left_comm,Nat.mul_add_div (Nat.two_pow_pos n),← Nat.mul_assoc,Nat.mul_comm _ 2,Nat.mul_add_mod]
theorem Xpj (T n:Nat):2 * (T / 2 ^ (n + 1)) + T / 2 ^ n % 2=T / 2 ^ n:=by
  rw [Nat.pow_succ,← Nat.div_div_eq_div_mul]
  exact Nat.div_add_mod _ 2
theorem Xvv (G:Gt) (B hi lo n:Nat) (k0:Value→Value→Value→Mem→Option Rs) (v:Value) (m:Mem) (hn:n < 128) (h1:hi < 2 ^ 64) (h2:lo < 2 ^ 64) (hg:m.get B=some (.cells [U hi,U lo] 0 0 false tyC)) :
    Q53 G k0 (I n) (pt B 0 0) v m=Q1r G k0 v (nI ((hi * 2 ^ 64 + lo) / 2 ^ n % 2)) (I n) (pt B 0 0) m:=by
  have x0:X6 false 1 (pt B (0 + 0) 0) m=some (U hi):=Xo hg rfl
  have x1:X6 false 1 (pt B (0 + 1) 0) m=some (U lo):=Xo hg rfl
  have fin:∀ b,b < 2→Qy G k0 (.bool (decide (((b:Nat):Int)=1))) v (I n) (pt B 0 0) (.int .i64 0) m=Q1r G k0 v (nI b) (I n) (pt B 0 0) m:=by
    intro b hb
    unfold Qy
    rw [X8]
    by_cases h:b=1
    . subst h; rw [if_pos (show ((1:Nat):Int)=1 from rfl)]; rfl
    . have:b=0:=by omega
      subst this; rw [if_neg (by decide)]; rfl
  have lt64:∀ a k:Nat,a < 2 ^ 64→a / 2 ^ k < 18446744073709551616:=fun a k h=>Nat.lt_of_le_of_lt (Nat.div_le_self _ _) h
  unfold Q53 Q7a
  rw [Q5u,X0,X8]
  by_cases h:64 ≤ n
  . obtain ⟨j,rfl⟩:∃ j,n=64 + j:=⟨n - 64,by omega⟩
    have w:IntKind.i64.wrap (((64 + j:Nat):Int) - 64)=(j:Int):=by rw [IntWalk.i64_in _ (by omega)]; omega
    rw [if_pos (by omega),Xg,X0,x0,X0,Q9t,w,X0,Xtl _ _ _ _ (by omega),X0,Xqg _ _ _ (lt64 hi j h1),X0,Qp,X0,Xt5 hi lo j h2,X8,Qf,X0,X8,if_neg (by omega:¬ (((64 + j:Nat):Int) < 64)),← fin _ (Nat.mod_lt _ (by decide))]
    by_cases hb:((hi / 2 ^ j % 2:Nat):Int)=1
    . rw [if_pos hb,decide_eq_true hb]
    . rw [if_neg hb,decide_eq_false hb]
  . rw [if_neg (by omega),Qf,X0,X8,if_pos (by omega),Xg,X0,x1,X0,Xtl _ _ _ _ (by omega),X0,Xqg _ _ _ (lt64 lo n h2),X0,Qp,X0,Xue hi lo n (by omega),← fin _ (Nat.mod_lt _ (by decide))]
theorem Xqp (T n:Nat) (h:T < 10 ^ 39):(dl (T / 2 ^ n)).length ≤ 39:=by
  rw [Xso]
  exact Xep _ 39 (by decide) (Nat.lt_of_le_of_lt (Nat.div_le_self _ _) h)
theorem Xj9 (G:Gt) (hr:∃ r,50 ≤ r∧G.rds=r) (B hi lo:Nat) (h1:hi < 2 ^ 64) (h2:lo < 2 ^ 64) (hT:hi * 2 ^ 64 + lo < 10 ^ 39):∀ (n:Nat) (v:Value) (m:Mem) (k:Nat),n ≤ 128→n < k→B < m.next→m.get B=some (.cells [U hi,U lo] 0 0 false tyC) →
    GA (B + 1) m v ((dl ((hi * 2 ^ 64 + lo) / 2 ^ n)).map nI) →
    ∃ v' m',Q8 G k (I ((n:Int) - 1)) (pt B 0 0) v m=Q52 G v' m'∧Fb B m m'∧GA (B + 1) m' v' ((dl (hi * 2 ^ 64 + lo)).map nI)
  | 0,v,m,k,hn,hk,hB,hg,hG=>by
    obtain ⟨k,rfl⟩:∃ q,k=q + 1:=⟨k - 1,by omega⟩
    rw [Nat.pow_zero,Nat.div_one] at hG
    refine ⟨v,m,?_,.refl _ _,hG⟩
    rw [Q8,Q5u,X0,X8,if_neg (by omega)]
  | n + 1,v,m,k,hn,hk,hB,hg,hG=>by
    obtain ⟨k,rfl⟩:∃ q,k=q + 1:=⟨k - 1,by omega⟩
    obtain ⟨r,hr1,hr2⟩:=hr
    have hlen:=Xqp (hi * 2 ^ 64 + lo) (n + 1) hT
    have en:(((n + 1:Nat):Int) - 1)=(n:Int):=by omega
    obtain ⟨T,eT⟩:∃ T,T=hi * 2 ^ 64 + lo:=⟨_,rfl⟩
    rw [← eT] at hG hlen ⊢
    have hc:T / 2 ^ n % 2 ≤ 1:=by have:=Nat.mod_lt (T / 2 ^ n) (by decide:2 > 0); omega
    obtain ⟨m1,a1,a2,a3,a4⟩:=Xm9 G (B + 1) v (Q8 G k) (I n) (pt B 0 0) (dl (T / 2 ^ (n + 1))) [] (T / 2 ^ n % 2) r m (Xta _) hc (by omega) (by simp; omega) (by simpa using hG)
    have hl2:(([]:List Nat) ++ got (T / 2 ^ n % 2) (dl (T / 2 ^ (n + 1)))).length ≤ 1000:=by rw [List.nil_append,Xma]; omega
    obtain ⟨v2,m2,b1,b2,b3⟩:=Xv9 G (B + 1) v (Q8 G k) (I n) (pt B 0 0) _ (goc (T / 2 ^ n % 2) (dl (T / 2 ^ (n + 1)))) m1 (by omega) hl2 a4
    rw [List.nil_append,Xu8 _ _ hc,Xpj] at b3
    have w:IntKind.i64.wrap ((n:Int) - 1)=(n:Int) - 1:=IntWalk.i64_in _ (by omega)
    have f2:Fb (B + 1) m m2:=a2.trans b2
    obtain ⟨v',m',c1,c2,c3⟩:=Xj9 G ⟨r,hr1,hr2⟩ B hi lo h1 h2 hT n v2 m2 k (by omega) (by omega) (Nat.lt_of_lt_of_le hB f2.next) (by rw [f2.get B (by omega)]; exact hg) (by rw [← eT]; exact b3)
    rw [← eT] at c3
    refine ⟨v',m',?_,(Fb.le f2 (by omega)).trans c2,c3⟩
    rw [Q8,en,Q5u,X0,X8,if_pos (by omega),Xvv G B hi lo n _ v m (by omega) h1 h2 hg,← eT]
    unfold Q1r Q79
    rw [hr2]
    refine Eq.trans a1 (Eq.trans b1 ?_)
    unfold Q2o
    rw [Q9t,w,X0]
    exact c1
theorem Xji (d:Nat) (B:Nat) (v:Value) (m:Mem) (ds:List Nat) (hd:∀ x ∈ ds,x < 10) (hl:ds.length ≤ 100) (hG:GA B m v (ds.map nI)):∀ (rest pre:List Nat) (acc:Str) (k:Nat),ds=pre ++ rest→rest.length < k→acc.length=pre.length →
    Q1y ⟨TA (d + 2),18446744073709551616⟩ k (I pre.length) v (sv acc) m=some (sv ((rest.map dg1).reverse ++ acc),m)
  | [],pre,acc,k,he,hk,ha=>by
    obtain ⟨k,rfl⟩:∃ q,k=q + 1:=⟨k - 1,by omega⟩
    rw [Q1y,hG.len,X0,Qf,X0,X8,if_neg (by rw [he]; simp)]
    rfl
  | x :: r,pre,acc,k,he,hk,ha=>by
    obtain ⟨k,rfl⟩:∃ q,k=q + 1:=⟨k - 1,by omega⟩
    have hx:=hd x (by rw [he]; simp)
    have hlen:ds.length=pre.length + (r.length + 1):=by rw [he]; simp
    have gi:(ds.map nI)[pre.length]?=some (nI x):=by
      rw [List.getElem?_map,he,List.getElem?_append_right (Nat.le_refl _),Nat.sub_self]; rfl
    obtain ⟨p,i1,i2,_⟩:=hG.at gi
    have cn:TA (d + 2) Q1 [nI x] m=_:=c_NumberN x (by omega) d m
    have w:IntKind.i64.wrap ((pre.length:Int) + 1)=((pre ++ [x]).length:Int):=by rw [IntWalk.i64_in _ (by omega)]; simp
    have ih:=Xji d B v m ds hd hl hG r (pre ++ [x]) (dg1 x :: acc) k (by rw [he]; simp) (by simp at hk; omega) (by simp [ha])
    rw [Q1y,hG.len,X0,Qf,X0,X8,if_pos (by rw [List.length_map]; omega),i1,X0,i2,X0]
    dsimp only
    rw [cn,X5,X2l hx,Qg _ _ _ _ (by simp; omega),X0,Qz,w,X0]
    refine Eq.trans ih ?_
    simp
theorem Xvo (hi lo:Nat) (h1:hi < 2 ^ 64) (h2:lo < 2 ^ 64):hi * 2 ^ 64 + lo < 10 ^ 39:=by
  have e:(2:Nat) ^ 64=18446744073709551616:=by decide
  rw [e] at h1 h2 ⊢
  exact lt39 hi lo h1 h2
theorem le50:50 ≤ 18446744073709551616:=by omega
theorem Xvq:128 < 18446744073709551616:=by omega
theorem big0 (hi lo:Nat) (h1:hi < 2 ^ 64) (h2:lo < 2 ^ 64):(hi * 2 ^ 64 + lo) / 2 ^ 128=0:=by
  refine Nat.div_eq_of_lt ?_
  have e:(2:Nat) ^ 64=18446744073709551616:=by decide
  have e2:(2:Nat) ^ 128=340282366920938463463374607431768211456:=by decide
  rw [e] at h1 h2 ⊢
  rw [e2]
  omega
theorem c_refDecimal (hi lo:Nat) (h1:hi < 2 ^ 64) (h2:lo < 2 ^ 64) (d:Nat) (m:Mem) :
    TA (d + 3) Q2f [.agg ⟨[U hi,U lo]⟩] m=some (sv (decDigits (hi * 2 ^ 64 + lo)),m):=by
  rw [X5f]
  let M:=(X4 m m.next).push (.cells [U hi,U lo] 0 0 false tyC)
  let M2:=M.push (.cells [.int .i64 0] 0 0 false (some (2 * Qgq)))
  have g0:M.get m.next=some (.cells [U hi,U lo] 0 0 false tyC):=Xl (X4 m m.next) _
  have F0:Fb m.next (X4 m m.next) M:=Fb.push _ (Nat.le_refl _)
  have F1:Fb m.next M M2:=Fb.push _ (by show m.next ≤ m.next + 1; omega)
  have hT:=Xvo hi lo h1 h2
  have g1:M2.get m.next=some (.cells [U hi,U lo] 0 0 false tyC):=by
    show (M.push _).get m.next=_
    rw [Mem.get_push,if_neg (by show ¬ m.next + 1=m.next; omega)]
    exact g0
  have gA:GA (m.next + 1) M2 (.slice (some ⟨m.next + 1,0,some 1⟩) 1 1) ((dl ((hi * 2 ^ 64 + lo) / 2 ^ 128)).map nI):=by
    have e:=big0 hi lo h1 h2
    rw [e,X6d (by decide)]
    refine .inr ⟨by simp,m.next + 1,0,1,some (2 * Qgq),by decide,rfl,Nat.le_refl _,by show m.next + 1 < m.next + 1 + 1; omega,?_⟩
    exact Xl M _
  obtain ⟨v',m',r1,r2,r3⟩:=Xj9 ⟨TA (d + 2),18446744073709551616⟩ ⟨18446744073709551616,le50,rfl⟩ m.next hi lo h1 h2 hT 128 _ M2 18446744073709551616 (Nat.le_refl _) Xvq (by show m.next < m.next + 1 + 1; omega) g1 gA
  have hl:=Xqp (hi * 2 ^ 64 + lo) 0 hT
  rw [Nat.pow_zero,Nat.div_one] at hl
  have hx:=Xji d (m.next + 1) v' m' _ (Xta _) (by omega) r3 (dl (hi * 2 ^ 64 + lo)) [] [] 18446744073709551616 (List.nil_append _).symm (by omega) rfl
  rw [List.append_nil,← Xqi] at hx
  refine Xq (m1:=m') ?_ (F0.trans (F1.trans r2)) rfl
  have hcs:(Value.cells (.agg ⟨[U hi,U lo]⟩)).toList=[U hi,U lo]:=rfl
  have hb:Xc Qgq [.int .i64 0] 1 1 [(0,.int .i64 0)] M=some (.slice (some ⟨m.next + 1,0,some 1⟩) 1 1,M2):=Eq.trans rfl rfl
  unfold Q2e Q7w
  rw [hcs,Xh]
  show bp (Xc Qgq [.int .i64 0] 1 1 [(0,.int .i64 0)] M) _=_
  rw [hb,X5]
  rw [show I (((128:Nat):Int) - 1)=.int .i64 127 from rfl] at r1
  unfold Q7v Q7u
  dsimp only
  rw [show (X4 m m.next).next=m.next from rfl,r1]
  unfold Q52 Q7t Q7s
  rw [show I ((([]:List Nat).length:Nat):Int)=.int .i64 0 from rfl,show sv []=.string ⟨#[]⟩ from rfl] at hx
  dsimp only
  rw [hx]
end Go.Ab.Sh

set_option maxRecDepth 100000
set_option linter.unusedVariables false
namespace Go.Ab.Sh
open Go Go.Ab Go.Lib
theorem c_refDec (hi lo:Nat) (h1:hi < 18446744073709551616) (h2:lo < 18446744073709551616) (d:Nat) (m:Mem) :
    TA (d + 3) Q2f [.agg ⟨[U hi,U lo]⟩] m=some (sv (decDigits (hi * 18446744073709551616 + lo)),m):=by
  have e:(2:Nat) ^ 64=18446744073709551616:=by decide
  have h:=c_refDecimal hi lo
  rw [e] at h
  exact h h1 h2 d m
theorem Xcl (s:Str) (q:QN) (hi lo:Nat) (h1:hi < 18446744073709551616) (h2:lo < 18446744073709551616) (hs:s.length ≤ 4194304) (hq:QOk q) (hb:q.dev.length + q.ifc.length + q.vrf.length ≤ 4000000) (d:Nat) (m:Mem) :
    TA (d + 9) Q21 [sv s,qV q,cnt hi lo] m=some (.bool true,m):=
  c_AskReads s q hi lo (decDigits (hi * 18446744073709551616 + lo)) hs hq hb d (fun m=>c_askDecimal hi lo h1 h2 (d + 4) m) (fun m=>c_refDec hi lo h1 h2 (d + 5) m) m
end Go.Ab.Sh

set_option maxRecDepth 100000
set_option linter.unusedVariables false
namespace Go.Ab
open Go
inductive Lf where | b | i (k:IntKind) | s
inductive Fits:List Lf→List Value→Prop where
  | nil:Fits [] []
  | b {L:List Lf} {cs:List Value} (x:Bool) (h:Fits L cs):Fits (.b :: L) (.bool x :: cs)
  | i {L:List Lf} {cs:List Value} (k:IntKind) (z:Int) (w:(Lit.int k z).wf=true) (h:Fits L cs):Fits (.i k :: L) (.int k z :: cs)
  | s {L:List Lf} {cs:List Value} (x:ByteArray) (h:Fits L cs):Fits (.s :: L) (.string x :: cs)
theorem Fits.app {L M:List Lf} {a b:List Value} (h:Fits L a) (k:Fits M b):Fits (L ++ M) (a ++ b):=by
  induction h with
  | nil=>exact k
  | b x _ ih=>exact .b x ih
  | i k z w _ ih=>exact .i k z w ih
  | s x _ ih=>exact .s x ih
def strs:List Value→Nat
  | []=>0
  | .string x :: r=>x.size + strs r
  | _ :: r=>strs r
theorem Xka:∀ a b:List Value,strs (a ++ b)=strs a + strs b
  | [],b=>by simp [strs]
  | v :: a,b=>by
    have ih:=Xka a b
    cases v <;> simp only [List.cons_append,strs,ih] <;> omega
def layF (P:Program) (g:TypeId→Option (List Lf)):List Field→Nat→Option (List Lf)
  | [],_=>some []
  | f :: fs,o=>if f.offset=o then (match g f.type with
    | none=>none
    | some L=>if P.cellsOf f.type=L.length then (match layF P g fs (o + L.length) with | none=>none | some R=>some (L ++ R)) else none) else none
def layT (P:Program):Nat→TypeId→Option (List Lf)
  | 0,_=>none
  | n + 1,t=>match P.underlying t with
    | some .bool=>some [.b]
    | some (.int k)=>some [.i k]
    | some .string=>some [.s]
    | some (.struct fs)=>(match layF P (layT P n) fs.toList 0 with
      | some L=>if P.cellsOf t=L.length then some L else none
      | none=>none)
    | _=>none
section
variable {H:Type} {enc:TypeId × Value→H} {P:Program}
structure Bulk (H:Type) where
  one:DataW H→Nat
  all:List (DataW H)→Nat
  str:∀ l,one (.lit (.string l))=l.length + 1
  agg:∀ l,one (.agg l)=all l + 1
  cons:∀ d l,all (d :: l)=one d + all l
def Reads (B:Bulk H) (enc:TypeId × Value→H) (P:Program) (fuel:Nat) (t:TypeId) (L:List Lf) (cs:List Value) (d:DataW H) (ps:List MemPlace):Prop:=
  Fits L cs∧ps=[]∧strs cs ≤ B.one d∧∀ (w:World) (base:Nat) (sp:Nat→Bool) (held:Bool),DataW.trod enc P w base sp held fuel t cs=some (d,[])
theorem Xda (B:Bulk H) {w:World} {base:Nat} {sp:Nat→Bool} {held:Bool} {fuel:Nat} {g:TypeId→Option (List Lf)}
    (hg:∀ t L,g t=some L→∀ cs d ps,DataW.trod enc P w base sp held fuel t cs=some (d,ps)→Reads B enc P fuel t L cs d ps) (cs:List Value):∀ (fs:List Field) (o:Nat) (R:List Lf) (xs:List (DataW H × List MemPlace)),
    layF P g fs o=some R→o + R.length ≤ cs.length→(fs.mapM fun f=>DataW.trod enc P w base sp held fuel f.type ((cs.drop f.offset).take (P.cellsOf f.type)))=some xs →
    Fits R ((cs.drop o).take R.length)∧xs.flatMap (·.2)=[]∧strs ((cs.drop o).take R.length) ≤ B.all (xs.map (·.1)) ∧
      ∀ (w:World) (base:Nat) (sp:Nat→Bool) (held:Bool),(fs.mapM fun f=>DataW.trod enc P w base sp held fuel f.type ((cs.drop f.offset).take (P.cellsOf f.type)))=some xs
  | [],o,R,xs,hl,ho,hx=>by
    simp only [layF,Option.some.injEq] at hl
    subst hl
    simp only [List.mapM_nil,pure,Option.some.injEq] at hx
    subst hx
    exact ⟨.nil,rfl,Nat.zero_le _,fun _ _ _ _=>rfl⟩
  | f :: fs,o,R,xs,hl,ho,hx=>by
    unfold layF at hl
    split at hl
    . rename_i hof
      cases hgt:g f.type with
      | none=>rw [hgt] at hl; cases hl
      | some L =>
        rw [hgt] at hl
        simp only at hl
        split at hl
        . rename_i hc
          cases hR:layF P g fs (o + L.length) with
          | none=>rw [hR] at hl; cases hl
          | some R' =>
            rw [hR] at hl
            simp only [Option.some.injEq] at hl
            subst hl
            rw [List.mapM_cons] at hx
            cases h1:DataW.trod enc P w base sp held fuel f.type ((cs.drop f.offset).take (P.cellsOf f.type)) with
            | none=>rw [h1] at hx; cases hx
            | some y =>
              cases h2:(fs.mapM fun f=>DataW.trod enc P w base sp held fuel f.type ((cs.drop f.offset).take (P.cellsOf f.type))) with
              | none=>rw [h1,h2] at hx; cases hx
              | some ys =>
                rw [h1,h2] at hx
                have hx:some (y :: ys)=some xs:=hx
                cases hx
                obtain ⟨d,ps⟩:=y
                have hof:=hof
                rw [hof,hc] at h1
                obtain ⟨a1,a2,a3,a4⟩:=hg f.type L hgt _ d ps h1
                rw [List.length_append] at ho
                obtain ⟨b1,b2,b3,b4⟩:=Xda B hg cs fs (o + L.length) R' ys hR (by omega) h2
                subst a2
                have e:(cs.drop o).take (L ++ R').length=(cs.drop o).take L.length ++ (cs.drop (o + L.length)).take R'.length:=by
                  rw [List.length_append,List.take_add,List.drop_drop]
                rw [e]
                refine ⟨a1.app b1,?_,?_,?_⟩
                . simpa using b2
                . rw [Xka,List.map_cons,B.cons]
                  show _ ≤ B.one d + _
                  omega
                . intro w base sp held
                  rw [List.mapM_cons,hof,hc,a4 w base sp held,b4 w base sp held]
                  rfl
        . cases hl
    . cases hl
theorem lay_reads (B:Bulk H) {w:World} {base:Nat} {sp:Nat→Bool} {held:Bool}:∀ (n:Nat) (t:TypeId) (L:List Lf),layT P n t=some L→∀ (fuel:Nat) (cs:List Value) (d:DataW H) (ps:List MemPlace),DataW.trod enc P w base sp held fuel t cs=some (d,ps)→Reads B enc P fuel t L cs d ps
  | 0,t,L,hl,fuel,cs,d,ps,h=>by cases hl
  | n + 1,t,L,hl,0,cs,d,ps,h=>by cases h
  | n + 1,t,L,hl,fuel + 1,cs,d,ps,h=>by
    unfold layT at hl
    cases hu:P.underlying t with
    | none=>rw [hu] at hl; cases hl
    | some T =>
      rw [hu] at hl
      cases T <;> simp only at hl
      case bool =>
        cases hl
        unfold DataW.trod at h
        rw [hu] at h
        match cs,h with
        | [.bool x],h =>
          simp only [Option.some.injEq,Prod.mk.injEq] at h
          obtain ⟨rfl,rfl⟩:=h
          exact ⟨.b x .nil,rfl,Nat.zero_le _,fun _ _ _ _=>by unfold DataW.trod; rw [hu]⟩
      case int k =>
        cases hl
        unfold DataW.trod at h
        rw [hu] at h
        match cs,h with
        | [.int k' z],h =>
          simp only at h
          split at h
          . rename_i hk
            simp only [Option.some.injEq,Prod.mk.injEq] at h
            obtain ⟨rfl,rfl⟩:=h
            obtain ⟨rfl,hw⟩:=hk
            exact ⟨.i k' z hw .nil,rfl,Nat.zero_le _,fun _ _ _ _=>by unfold DataW.trod; rw [hu]; simp [hw]⟩
          . cases h
      case string =>
        cases hl
        unfold DataW.trod at h
        rw [hu] at h
        match cs,h with
        | [.string x],h =>
          simp only at h
          split at h
          . rename_i hk
            simp only [Option.some.injEq,Prod.mk.injEq] at h
            obtain ⟨rfl,rfl⟩:=h
            refine ⟨.s x .nil,rfl,?_,fun _ _ _ _=>by unfold DataW.trod; rw [hu]; simp only; rw [if_pos hk]⟩
            rw [B.str,Array.length_toList]
            show x.size + 0 ≤ x.size + 1
            omega
          . cases h
      case struct fs =>
        cases hR:layF P (layT P n) fs.toList 0 with
        | none=>rw [hR] at hl; cases hl
        | some R =>
          rw [hR] at hl
          simp only at hl
          split at hl
          . rename_i hc
            obtain rfl:R=L:=Option.some.inj hl
            unfold DataW.trod at h
            rw [hu] at h
            simp only at h
            split at h
            . rename_i hlen
              cases hx:(fs.toList.mapM fun f=>DataW.trod enc P w base sp held fuel f.type ((cs.drop f.offset).take (P.cellsOf f.type))) with
              | none=>rw [hx] at h; cases h
              | some xs =>
                rw [hx] at h
                simp only [Option.map_some,Option.some.injEq,Prod.mk.injEq] at h
                obtain ⟨rfl,rfl⟩:=h
                obtain ⟨a1,a2,a3,a4⟩:=Xda B (fun t L ht cs d ps hh=>lay_reads B n t L ht fuel cs d ps hh) cs fs.toList 0 R xs hR (by omega) hx
                have e:(cs.drop 0).take R.length=cs:=by rw [List.drop_zero,← hc,← hlen,List.take_length]
                rw [e] at a1 a3
                refine ⟨a1,a2,by rw [B.agg]; omega,fun w' base' sp' held'=>?_⟩
                unfold DataW.trod
                rw [hu]
                simp only
                rw [if_pos hlen,a4 w' base' sp' held']
                simp only [Option.map_some,a2]
            . cases h
          . cases hl
      all_goals cases hl
theorem Xc5 (B:Bulk H) {w:World} {base:Nat} {sp:Nat→Bool} {held:Bool} {n:Nat} {t:TypeId} {L:List Lf} (hl:layT P n t=some L) {v:Value} {d:DataW H} {ps:List MemPlace} (h:DataW.Trod enc P w base sp held t v d ps) :
    Fits L v.cells.toList∧ps=[]∧strs v.cells.toList ≤ B.one d∧∀ (w:World) (base:Nat) (sp:Nat→Bool) (held:Bool),DataW.Trod enc P w base sp held t v d []:=by
  obtain ⟨fuel,hf⟩:=h
  obtain ⟨a,b,c,e⟩:=lay_reads B n t L hl fuel _ d ps hf
  exact ⟨a,b,c,fun w base sp held=>⟨fuel,e w base sp held⟩⟩
end
end Go.Ab

set_option maxRecDepth 100000
set_option linter.unusedVariables false
namespace Go.Ab.Sh
open Go Go.Ab Go.Lib
theorem layS:layT Go.Proofs.Tryz.prog 1 Q4=some [.s]:=by kernel_rfl
theorem layC:layT Go.Proofs.Tryz.prog 2 Q7k=some [.i .u64,.i .u64]:=by kernel_rfl
theorem layQ:layT Go.Proofs.Tryz.prog 4 Q12=some [.i .u8,.s,.s,.s,.i .u8,.b,.i .i64,.i .u32,.i .i64,.i .u32,.i .i64,.i .u32,.i .u32,.i .u32,.i .u32,.i .u32,.i .u32,.i .u8,.i .u16,.i .u16,.i .i64,.i .u32]:=by kernel_rfl
theorem X73 {k:IntKind} {z:Int} {n:Nat} (h:(Lit.int k z).wf=true) (h0:k.min=0) (h1:k.max=(n:Int)):z=((z.toNat:Nat):Int)∧z.toNat ≤ n:=by
  have h2:k.min ≤ z∧z ≤ k.max:=by simpa [Lit.wf] using h
  omega
theorem wf_i64 {z:Int} (h:(Lit.int .i64 z).wf=true):-9223372036854775808 ≤ z∧z ≤ 9223372036854775807:=by
  simpa [Lit.wf,IntKind.min,IntKind.max,IntKind.signed,IntKind.bits] using h
theorem X2o {k:IntKind} {L:List Lf} {cs:List Value} (h:Fits (.i k :: L) cs):∃ z r,cs=.int k z :: r∧(Lit.int k z).wf=true∧Fits L r:=by
  cases h with | i k z w h=>exact ⟨z,_,rfl,w,h⟩
theorem Xnv {L:List Lf} {cs:List Value} (h:Fits (.s :: L) cs):∃ x r,cs=.string x :: r∧Fits L r:=by
  cases h with | s x h=>exact ⟨x,_,rfl,h⟩
theorem Xtj {L:List Lf} {cs:List Value} (h:Fits (.b :: L) cs):∃ x r,cs=.bool x :: r∧Fits L r:=by
  cases h with | b x h=>exact ⟨x,_,rfl,h⟩
theorem Xtn {cs:List Value} (h:Fits [] cs):cs=[]:=by cases h; rfl
theorem Xjc {z:Int} (h:-9223372036854775808 ≤ z∧z ≤ 9223372036854775807):X5j z=true:=by
  cases z with
  | ofNat n=>exact X28 (by have:(Int.ofNat n)=(n:Int):=rfl; omega)
  | negSucc n=>exact Nat.blt_eq.mpr (by omega)
theorem Xth {cs:List Value} (h:Fits [.i .u64,.i .u64] cs):∃ hi lo:Nat,hi < 18446744073709551616∧lo < 18446744073709551616∧cs=[.int .u64 (hi:Int),.int .u64 (lo:Int)]:=by
  match cs,h with
  | _,.i _ a wa (.i _ b wb .nil) =>
    obtain ⟨a1,a2⟩:=X73 (n:=18446744073709551615) wa rfl rfl
    obtain ⟨b1,b2⟩:=X73 (n:=18446744073709551615) wb rfl rfl
    exact ⟨a.toNat,b.toNat,by omega,by omega,by rw [← a1,← b1]⟩
theorem Xsw {cs:List Value} (h:Fits [.i .u8,.s,.s,.s,.i .u8,.b,.i .i64,.i .u32,.i .i64,.i .u32,.i .i64,.i .u32,.i .u32,.i .u32,.i .u32,.i .u32,.i .u32,.i .u8,.i .u16,.i .u16,.i .i64,.i .u32] cs) (hs:strs cs ≤ 4000000) :
    ∃ q:QN,QOk q∧q.dev.length + q.ifc.length + q.vrf.length ≤ 4000000∧cs=qC q:=by
  obtain ⟨a0,r0,rfl,w0,h0⟩:=X2o h
  obtain ⟨x1,r1,rfl,h1⟩:=Xnv h0
  obtain ⟨x2,r2,rfl,h2⟩:=Xnv h1
  obtain ⟨x3,r3,rfl,h3⟩:=Xnv h2
  obtain ⟨a4,r4,rfl,w4,h4⟩:=X2o h3
  obtain ⟨x5,r5,rfl,h5⟩:=Xtj h4
  obtain ⟨a6,r6,rfl,w6,h6⟩:=X2o h5
  obtain ⟨a7,r7,rfl,w7,h7⟩:=X2o h6
  obtain ⟨a8,r8,rfl,w8,h8⟩:=X2o h7
  obtain ⟨a9,r9,rfl,w9,h9⟩:=X2o h8
  obtain ⟨a10,r10,rfl,w10,h10⟩:=X2o h9
  obtain ⟨a11,r11,rfl,w11,h11⟩:=X2o h10
  obtain ⟨a12,r12,rfl,w12,h12⟩:=X2o h11
  obtain ⟨a13,r13,rfl,w13,h13⟩:=X2o h12
  obtain ⟨a14,r14,rfl,w14,h14⟩:=X2o h13
  obtain ⟨a15,r15,rfl,w15,h15⟩:=X2o h14
  obtain ⟨a16,r16,rfl,w16,h16⟩:=X2o h15
  obtain ⟨a17,r17,rfl,w17,h17⟩:=X2o h16
  obtain ⟨a18,r18,rfl,w18,h18⟩:=X2o h17
  obtain ⟨a19,r19,rfl,w19,h19⟩:=X2o h18
  obtain ⟨a20,r20,rfl,w20,h20⟩:=X2o h19
  obtain ⟨a21,r21,rfl,w21,h21⟩:=X2o h20
  obtain rfl:=Xtn h21
  obtain ⟨e0,l0⟩:=X73 (n:=255) w0 rfl rfl
  obtain ⟨e4,l4⟩:=X73 (n:=255) w4 rfl rfl
  obtain ⟨e7,l7⟩:=X73 (n:=4294967295) w7 rfl rfl
  obtain ⟨e9,l9⟩:=X73 (n:=4294967295) w9 rfl rfl
  obtain ⟨e11,l11⟩:=X73 (n:=4294967295) w11 rfl rfl
  obtain ⟨e12,l12⟩:=X73 (n:=4294967295) w12 rfl rfl
  obtain ⟨e13,l13⟩:=X73 (n:=4294967295) w13 rfl rfl
  obtain ⟨e14,l14⟩:=X73 (n:=4294967295) w14 rfl rfl
  obtain ⟨e15,l15⟩:=X73 (n:=4294967295) w15 rfl rfl
  obtain ⟨e16,l16⟩:=X73 (n:=4294967295) w16 rfl rfl
  obtain ⟨e17,l17⟩:=X73 (n:=255) w17 rfl rfl
  obtain ⟨e18,l18⟩:=X73 (n:=65535) w18 rfl rfl
  obtain ⟨e19,l19⟩:=X73 (n:=65535) w19 rfl rfl
  obtain ⟨e21,l21⟩:=X73 (n:=4294967295) w21 rfl rfl
  have b6:=wf_i64 w6
  have b8:=wf_i64 w8
  have b10:=wf_i64 w10
  have b20:=wf_i64 w20
  have hs:x1.size + (x2.size + (x3.size + 0)) ≤ 4000000:=hs
  have z1:x1.data.toList.length=x1.size:=by rw [Array.length_toList]; rfl
  have z2:x2.data.toList.length=x2.size:=by rw [Array.length_toList]; rfl
  have z3:x3.data.toList.length=x3.size:=by rw [Array.length_toList]; rfl
  have y1:x1.data.toList.length ≤ 4194304:=by omega
  have y2:x2.data.toList.length ≤ 4194304:=by omega
  have y3:x3.data.toList.length ≤ 4194304:=by omega
  have y4:x1.data.toList.length + x2.data.toList.length + x3.data.toList.length ≤ 4000000:=by omega
  refine ⟨⟨a0.toNat,x1.data.toList,x2.data.toList,x3.data.toList,a4.toNat,⟨x5,a6,a7.toNat,a8,a9.toNat,a10,a11.toNat,a12.toNat,a13.toNat,a14.toNat⟩,a15.toNat,a16.toNat,a17.toNat,a18.toNat,a19.toNat,a20,a21.toNat⟩,
    ⟨Nat.lt_succ_of_le l0,y1,y2,y3,Nat.lt_succ_of_le l4,⟨Xjc b6,Nat.lt_succ_of_le l7,Xjc b8,Nat.lt_succ_of_le l9,Xjc b10,Nat.lt_succ_of_le l11,Nat.lt_succ_of_le l12,Nat.lt_succ_of_le l13,Nat.lt_succ_of_le l14⟩,Nat.lt_succ_of_le l15,Nat.lt_succ_of_le l16,l17,l18,l19,Xjc b20,Nat.lt_succ_of_le l21⟩,y4,?_⟩
  show _=([.int .u8 ((a0.toNat:Nat):Int),.string x1,.string x2,.string x3,.int .u8 ((a4.toNat:Nat):Int),.bool x5,.int .i64 a6,.int .u32 ((a7.toNat:Nat):Int),.int .i64 a8,.int .u32 ((a9.toNat:Nat):Int),.int .i64 a10,.int .u32 ((a11.toNat:Nat):Int),.int .u32 ((a12.toNat:Nat):Int),.int .u32 ((a13.toNat:Nat):Int),.int .u32 ((a14.toNat:Nat):Int),
    .int .u32 ((a15.toNat:Nat):Int),.int .u32 ((a16.toNat:Nat):Int),.int .u8 ((a17.toNat:Nat):Int),.int .u16 ((a18.toNat:Nat):Int),.int .u16 ((a19.toNat:Nat):Int),.int .i64 a20,.int .u32 ((a21.toNat:Nat):Int)]:List Value)
  rw [← e0,← e4,← e7,← e9,← e11,← e12,← e13,← e14,← e15,← e16,← e17,← e18,← e19,← e21]
theorem Xhz {P:Program} {W:World} {g:Tab} (hT:X1q P W g) {f:FuncId} {fn:Func} {c:Code} (hf:P.funcs[f]?=some fn) (hb:fn.body=some c) (hn:(fn.name == "runtime.NumGoroutine")=false) (args:List Value) (ha:∀ φ,VRels φ args args) {v:Value} {m':Mem}
    (hg:g f args mem0=some (v,m')) (hpl:∀ φ cv,VRel φ v cv→cv=v):Calls P f args.toArray W fun e w'=>e=.returned v∧RowKit.Below W.heap.size W w':=by
  have h:=hT (fun _=>none) mem0 W f args args v m' (Xpu W) (RowKit.Below.refl _ _) (ha _) hg
  rcases h with ⟨_,h⟩ | ⟨cv,w',h,_⟩
  . refine h.mono fun e w' he=>?_
    obtain ⟨cv,rfl,φ',_,h2,h3⟩:=he
    rw [hpl φ' cv h2]
    exact ⟨rfl,⟨h3.os,h3.tape,h3.output,h3.size,fun k hk=>h3.frame k hk fun b pl hh=>nomatch hh⟩⟩
  . have:=enters hf hb hn args.toArray W
    change (callFunc f args.toArray).run P W=_ at h
    rw [this] at h
    cases h
theorem Xuv (φ:Pmap) (q:QN):VRel φ (qV q) (qV q):=by
  refine .agg _ _ ?_
  show VRels φ (qC q) (qC q)
  unfold qC
  repeat (first | exact .nil | refine .cons _ _ _ _ (by first | exact .int _ _ | exact .bool _ | exact .string _) ?_)
theorem Xq1 (φ:Pmap) (s:Str) (q:QN) (hi lo:Nat):VRels φ [sv s,qV q,cnt hi lo] [sv s,qV q,cnt hi lo]:=
  .cons _ _ _ _ (.string _) (.cons _ _ _ _ (Xuv φ q) (.cons _ _ _ _ (.agg _ _ (.cons _ _ _ _ (.int _ _) (.cons _ _ _ _ (.int _ _) .nil))) .nil))
theorem Xnl {W:World} (hT:∀ n,X1q Go.Proofs.Tryz.prog W (TA n)) {fn:Func} {c:Code} (hf:Go.Proofs.Tryz.prog.funcs[Q21]?=some fn) (hb:fn.body=some c) (hn:(fn.name == "runtime.NumGoroutine")=false)
    (s:Str) (q:QN) (hi lo:Nat) (h1:hi < 18446744073709551616) (h2:lo < 18446744073709551616) (hs:s.length ≤ 4194304) (hq:QOk q) (hl:q.dev.length + q.ifc.length + q.vrf.length ≤ 4000000) :
    Calls Go.Proofs.Tryz.prog Q21 #[sv s,qV q,cnt hi lo] W fun e w'=>e=.returned (.bool true)∧RowKit.Below W.heap.size W w':=
  Xhz (hT 9) hf hb hn [sv s,qV q,cnt hi lo] (fun φ=>Xq1 φ s q hi lo) (Xcl s q hi lo h1 h2 hs hq hl 0 mem0) (fun φ cv h=>Xlu h)
end Go.Ab.Sh
