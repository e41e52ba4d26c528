/-
  What the functions of the program answer, at every text and every question. No conditions.
-/
import Derived.Test.YtjnfcoeninejbaaGreatDoorA0
set_option maxRecDepth 100000
set_option linter.unusedSimpArgs false
set_option linter.unusedVariables false
namespace Go.Ab
open Go Go.Lib
theorem SL.block {m:Mem} {v:Value} {ws:List Str} (h:SL m v ws):∃ bs,bs < m.next∧(∀ m',m.next ≤ m'.next→m'.get bs=m.get bs→SL m' v ws)∧∀ n,refs n 8 v=Nat.blt bs n:=by
  obtain ⟨b,o,r,c,fro,ro,ty,rfl,h2,h3,h4,h5⟩:=h
  exact ⟨b,h2,fun m' hn hg=>⟨b,o,r,c,fro,ro,ty,rfl,Nat.lt_of_lt_of_le h2 hn,by rw [hg]; exact h3,h4,h5⟩,fun n=>rfl⟩
theorem Xne {a b:Nat} (h:Nat.blt a b=false):b ≤ a:=by
  rcases Nat.lt_or_ge a b with q | q
  . rw [Nat.blt_eq.mpr q] at h; cases h
  . exact q
theorem Xff {x:Str} {a n:Nat} (h:pEnd x=some (a,n)):a < 4294967296∧n ≤ 65535:=by
  unfold pEnd at h
  split at h
  . split at h
    . rename_i h1 h2
      cases h
      exact ⟨Sh.addrP_lt h1,Xng h2⟩
    . cases h
  . split at h
    . rename_i h1 h2
      cases h
      exact ⟨Sh.addrP_lt h1,Xng h2⟩
    . cases h
theorem Xw6:(hdr 0 0 0 0 0)=.agg ⟨(hdr 0 0 0 0 0).cells.toList⟩:=rfl
theorem Xes {m:Mem} {b o:Nat} {cs:List Value} {ty:Option Nat} (h:m.get b=some (.cells cs 0 0 false ty)) (v:Value) (hv:v.cells.toList=[v]) (h1:one v=true) (ho:o + 1 ≤ cs.length) {B:Nat} (hB:B ≤ b) :
    ∃ m',X7 1 (pt b o 0) v m=some m'∧Fb B m m'∧m'.next=m.next∧m'.get b=some (.cells (cs.take o ++ [v] ++ cs.drop (o + 1)) 0 0 false ty)∧∀ c,c ≠ b→m'.get c=m.get c:=by
  have hs:v.cells.size=1:=by rw [← Array.length_toList,hv]; rfl
  obtain ⟨m',k1,k2⟩:=X3g (o:=o) (n:=1) (v:=v) h hs (Nat.zero_le _) ho (by rw [hv]; simp [h1]) rfl
  refine ⟨m',k1,((Fb.refl B _).put _ hB).meq k2,by rw [k2.next,Mem.next_put],by rw [k2.get,Mem.get_put,if_pos rfl,hv],fun c hc=>by rw [k2.get,Mem.get_put,if_neg (fun e=>hc e.symm)]⟩
end Go.Ab
namespace Go.Ab.Sh
open Go Go.Ab Go.Lib
def cutO (c:UInt8) (w:Str):Str × Str × Bool:=match cut c w with | none=>(w,[],false) | some (x,y)=>(x,y,true)
theorem c_CutO (s:Str) (hs:s.length ≤ 4194304) (c:UInt8) (d:Nat) (m:Mem):TA (d + 2) Q2z [sv s,sv [c]] m=some (.tuple ⟨[sv (cutO c s).1,sv (cutO c s).2.1,.bool (cutO c s).2.2]⟩,m):=by
  rw [c_Cut s hs]
  unfold cutO
  cases cut c s <;> rfl
theorem Xjb (c:UInt8) (w:Str):(cutO c w).1.length ≤ w.length∧(cutO c w).2.1.length ≤ w.length:=by
  unfold cutO
  cases h:cut c w with
  | none=>simp
  | some p=>have:=X4t h; simp; omega
theorem Xsq (w:Str):pEnd w=match X2p (cutO 58 w).1,parseUintB 16 (cutO 58 w).2.1 with | some a,.ok n=>some (a,n) | _,_=>none:=by
  unfold pEnd cutO
  cases cut 58 w <;> rfl
theorem Xmn (d:Nat) (k0:Value→Value→Value→Value→Value→Mem→Option Rs) (B b0 b5 i:Nat) (hi:i < 2) (v:Value) (ws:List Str) (w:Str) (hw:ws[i]?=some w) (hwl:w.length ≤ 4194304) (p0:Value) (cs:List Value) (ty:Option Nat) (m:Mem)
    (hS:SL m v ws) (g0:m.get b0=some (.cells Q7 0 0 false (some (2 * Q3 + 1)))) (g5:m.get b5=some (.cells cs 0 0 false ty)) (hcs:cs.length=5) (hB:B ≤ b0) (hB5:B ≤ b5) (hn0:b0 < m.next) (hn5:b5 < m.next) (hBm:B ≤ m.next) :
    (pEnd w=none→∃ m1,Q3p ⟨TA (d + 4),18446744073709551616⟩ k0 v (I i) (pt b0 0 0) (pt b5 0 0) (I i) p0 m=some (hdrV none,m1)∧Fb B m m1) ∧
    (∀ a n,pEnd w=some (a,n)→∃ m1,Q3p ⟨TA (d + 4),18446744073709551616⟩ k0 v (I i) (pt b0 0 0) (pt b5 0 0) (I i) p0 m=k0 (I (i + 1:Nat)) v (pt b0 0 0) (pt b5 0 0) p0 m1∧Fb B m m1 ∧
      (∀ c,c < m.next→c ≠ b5→m1.get c=m.get c)∧m1.get b5=some (.cells (((cs.take i ++ [Value.int .u32 (a:Int)] ++ cs.drop (i + 1)).take (3 + i)) ++ [Value.int .u16 (n:Int)] ++ ((cs.take i ++ [Value.int .u32 (a:Int)] ++ cs.drop (i + 1)).drop (3 + i + 1))) 0 0 false ty)):=by
  obtain ⟨p,l1,l2⟩:=hS.at hw
  have hcl:=Xjb 58 w
  have hcut:TA (d + 4) Q2z [sv w,.string ⟨#[58]⟩] m=_:=c_CutO w hwl 58 (d + 2) m
  have haddr:∀ m,TA (d + 4) Q6e [sv (cutO 58 w).1] m=_:=fun m=>c_addrParse (cutO 58 w).1 (by omega) d m
  obtain ⟨u,e,mP,r1,r2,r3⟩:=c_Pu 16 (.inl rfl) (cutO 58 w).2.1 (by omega) (d + 4) m
  have r1:TA (d + 4) Q9 [sv (cutO 58 w).2.1,.int .i64 10,.int .i64 16] m=_:=r1
  have gP0:mP.get b0=some (.cells Q7 0 0 false (some (2 * Q3 + 1))):=by rw [r2.get b0 hn0 (by simp)]; exact g0
  have gP5:mP.get b5=some (.cells cs 0 0 false ty):=by rw [r2.get b5 hn5 (by simp)]; exact g5
  have FP:Fb B m mP:=Fr.toFb r2 hBm
  obtain ⟨mE,e1,e2,_⟩:=X14 (n:=5) (tail:=[I 4]) gP0 rfl (vs:=(hdr 0 0 0 0 0).cells.toList) rfl rfl hB
  have e1:(bp (unt (X7 5 (pt b0 0 0) (hdr 0 0 0 0 0) mP)) fun _ m_1=>ob (ob (X6 true 5 (pt b0 0 0) m_1) fun v=>ob (some [Value.int .i64 4]) fun l=>some (v :: l)) fun l=>some (X1a l,m_1))=some (hdrV none,mE):=e1
  rw [Xsq w]
  unfold Q3p Qdb Qda Qd9 Q9w Q9v
  simp only [l1,l2,X0,hcut,X5,ex0,ex1,ex2,haddr]
  cases ha:X2p (cutO 58 w).1 with
  | none =>
    refine ⟨fun _=>⟨mE,?_,FP.trans e2⟩,fun a n h=>by cases h⟩
    simp only [X3u,ex0,ex1,X0,r1,X5,Q1o,X8,Xd,aB50]
    exact e1
  | some a =>
    have ha2:=addrP_lt ha
    simp only [X3u,ex0,ex1,X0,r1,X5,Q1o,X8,Xd,aB50]
    rcases r3 with ⟨n,h1,rfl,rfl⟩ | ⟨h1,q,rfl⟩
    . rw [h1]
      refine ⟨fun h=>(by simp at h),fun a' n' h=>?_⟩
      simp only [Option.some.injEq,Prod.mk.injEq] at h
      obtain ⟨rfl,rfl⟩:=h
      have hn:=Xng h1
      have w16:IntKind.u16.wrap (n:Int)=n:=by rw [IntWalk.u16_in _ (by omega)]
      have w1:IntKind.i64.wrap ((i:Int) + 1)=((i + 1:Nat):Int):=by rw [IntWalk.i64_in _ (by omega)]; omega
      obtain ⟨m2,k1,k2,k3,k4,k5⟩:=Xes (o:=i) gP5 (.int .u32 (a:Int)) rfl rfl (by omega) hB5
      have hl2:(cs.take i ++ [Value.int .u32 (a:Int)] ++ cs.drop (i + 1)).length=5:=by simp; omega
      obtain ⟨m3,q1,q2,q3,q4,q5⟩:=Xes (o:=3 + i) k4 (.int .u16 (n:Int)) rfl rfl (by omega) hB5
      refine ⟨m3,?_,FP.trans (k2.trans q2),fun c hc hc5=>by rw [q5 c hc5,k5 c hc5,r2.get c hc (by simp)],q4⟩
      simp only [ne_eq,not_true_eq_false,decide_false,Xb,nilI,X0,c_int,w16,X5,Qp,X8,Xg,Qz,w1]
      have hi2:i=0∨i=1:=by omega
      rcases hi2 with rfl | rfl
      . simp only [if_false]
        have k1:X7 1 (pt b5 (0 + 0) 0) (.int .u32 (a:Int)) mP=some m2:=k1
        have q1:X7 1 (pt b5 (0 + 3) 0) (.int .u16 (n:Int)) m2=some m3:=q1
        simp [k1,q1,Xe]
      . simp only [if_false]
        have k1:X7 1 (pt b5 (0 + 1) 0) (.int .u32 (a:Int)) mP=some m2:=k1
        have q1:X7 1 (pt b5 (0 + 4) 0) (.int .u16 (n:Int)) m2=some m3:=q1
        simp [k1,q1,Xe]
    . have:(match some a,parseUintB 16 (cutO 58 w).2.1 with | some a,.ok n=>some (a,n) | _,_=>none:Option (Nat × Nat))=none:=by
        cases h:parseUintB 16 (cutO 58 w).2.1 with
        | ok n=>exact absurd h (h1 n)
        | _=>rfl
      rw [this]
      refine ⟨fun _=>⟨mE,?_,FP.trans e2⟩,fun a n h=>by cases h⟩
      simp only [ne_eq,not_true_eq_false,decide_false,Xb,Xrp,X0,Xd,aB50,if_false]
      exact e1
end Go.Ab.Sh

set_option maxRecDepth 100000
set_option linter.unusedSimpArgs false
set_option linter.unusedVariables false
namespace Go.Ab.Sh
open Go Go.Ab Go.Lib
theorem c_header (s:Str) (hs:s.length ≤ 4194304) (d:Nat) (m:Mem):TA (d + 5) Q9z [sv s] m=some (hdrV (prH s),m):=by
  rw [Xch]
  let m0:=(X4 m m.next).push (.cells Q7 0 0 false (some (2 * Q3 + 1)))
  have g0:m0.get m.next=some (.cells Q7 0 0 false (some (2 * Q3 + 1))):=Xl (X4 m m.next) _
  have F0:Fb m.next (X4 m m.next) m0:=Fb.push _ (Nat.le_refl _)
  have n0:m0.next=m.next + 1:=rfl
  have body:∃ m1,Qbe ⟨TA (d + 4),18446744073709551616⟩ (sv s) (pt m.next 0 0) m0=some (hdrV (prH s),m1)∧Fb m.next m0 m1:=by
    obtain ⟨v,m1,k1,k2,k3,k4⟩:=c_Split s hs 32 (d + 1) m0
    have k1:TA (d + 4) Q2m [sv s,.string ⟨#[32]⟩] m0=some (v,m1):=k1
    have F1:Fb m.next m0 m1:=Fr.toFb k2 (by omega)
    have n1:m.next < m1.next:=Nat.lt_of_lt_of_le (by omega) k2.next
    have g1:m1.get m.next=some (.cells Q7 0 0 false (some (2 * Q3 + 1))):=by rw [k2.get _ (by omega) (by simp)]; exact g0
    obtain ⟨mE,r1,r2,_⟩:=X14 (n:=5) (tail:=[I 4]) g1 rfl (vs:=(hdr 0 0 0 0 0).cells.toList) rfl rfl (Nat.le_refl m.next)
    have r1:(bp (unt (X7 5 (pt m.next 0 0) (hdr 0 0 0 0 0) m1)) fun _ m_1=>ob (ob (X6 true 5 (pt m.next 0 0) m_1) fun v=>ob (some [Value.int .i64 4]) fun l=>some (v :: l)) fun l=>some (X1a l,m_1))=some (hdrV none,mE):=r1
    unfold Qbe Qe4
    simp only [k1,X5,k3.len,X0,Q1o,X8]
    by_cases h3:(split 32 s).length=3
    . rw [if_neg (by omega)]
      obtain ⟨w0,w1,w2,hws⟩:∃ w0 w1 w2,split 32 s=[w0,w1,w2]:=by
        cases h:split 32 s with
        | nil=>rw [h] at h3; simp at h3
        | cons a l=>cases l with
          | nil=>rw [h] at h3; simp at h3
          | cons b l=>cases l with
            | nil=>rw [h] at h3; simp at h3
            | cons c l=>cases l with
              | nil=>exact ⟨a,b,c,rfl⟩
              | cons _ _=>rw [h] at h3; simp at h3
      have hl0:w0.length ≤ s.length:=X2k 32 s w0 (by rw [hws]; simp)
      have hl1:w1.length ≤ s.length:=X2k 32 s w1 (by rw [hws]; simp)
      have hl2:w2.length ≤ s.length:=X2k 32 s w2 (by rw [hws]; simp)
      rw [hws] at k3
      obtain ⟨bs,hb1,hb2,hb3⟩:=k3.block
      have hbs:m0.next ≤ bs:=Xne ((hb3 _).symm.trans k4)
      -- the header's variable
      let m2:=m1.push (.cells Q7 0 0 false (some (2 * Q3 + 1)))
      have g5:m2.get m1.next=some (.cells Q7 0 0 false (some (2 * Q3 + 1))):=Xl m1 _
      have old2:∀ c,c < m1.next→m2.get c=m1.get c:=fun c hc=>by show (m1.push _).get c=_; rw [Mem.get_push,if_neg (by omega)]
      have n2:m2.next=m1.next + 1:=rfl
      have F2:Fb m.next m1 m2:=Fb.push _ (by omega)
      have S2:SL m2 v [w0,w1,w2]:=hb2 m2 (by omega) (old2 bs hb1)
      unfold Qe3 Qe2 Qe1
      rw [Xh]
      show ∃ m1',Qd ⟨TA (d + 4),18446744073709551616⟩ (18446744073709551613 + 1 + 1 + 1) (I 0) v (pt m.next 0 0) (pt m1.next 0 0) (sv s) m2=_∧_
      obtain ⟨it1,it2⟩:=Xmn d (Qd ⟨TA (d + 4),18446744073709551616⟩ (18446744073709551613 + 1 + 1)) m.next m.next m1.next 0 (by omega) v [w0,w1,w2] w0 rfl (by omega) (sv s) Q7 (some (2 * Q3 + 1)) m2 S2 (by rw [old2 _ n1]; exact g1) g5 rfl (Nat.le_refl _) (by omega) (by omega) (by omega) (by omega)
      have st0:Qd ⟨TA (d + 4),18446744073709551616⟩ (18446744073709551613 + 1 + 1 + 1) (I 0) v (pt m.next 0 0) (pt m1.next 0 0) (sv s) m2=Q3p ⟨TA (d + 4),18446744073709551616⟩ (Qd ⟨TA (d + 4),18446744073709551616⟩ (18446744073709551613 + 1 + 1)) v (I (0:Nat)) (pt m.next 0 0) (pt m1.next 0 0) (I (0:Nat)) (sv s) m2:=by
        rw [Qd]
        unfold Q73 Q9x
        simp only [Qf,X0,X8]
        rfl
      rw [st0]
      cases he0:pEnd w0 with
      | none =>
        obtain ⟨m3,q1,q2⟩:=it1 he0
        have hE:prH s=none:=by unfold prH; simp only [hws,he0]
        rw [hE]
        exact ⟨m3,q1,F1.trans (F2.trans q2)⟩
      | some am =>
        obtain ⟨a,pm⟩:=am
        obtain ⟨b1,b2⟩:=Xff he0
        obtain ⟨m3,q1,q2,q3,q4⟩:=it2 a pm he0
        rw [q1]
        have n3:m2.next ≤ m3.next:=q2.next
        have S3:SL m3 v [w0,w1,w2]:=hb2 m3 (by omega) (by rw [q3 bs (by omega) (by omega),old2 bs hb1])
        obtain ⟨it3,it4⟩:=Xmn d (Qd ⟨TA (d + 4),18446744073709551616⟩ (18446744073709551613 + 1)) m.next m.next m1.next 1 (by omega) v [w0,w1,w2] w1 rfl (by omega) (sv s) _ (some (2 * Q3 + 1)) m3 S3 (by rw [q3 _ (by omega) (by omega),old2 _ n1]; exact g1) q4 rfl (Nat.le_refl _) (by omega) (by omega) (by omega) (by omega)
        have st1:Qd ⟨TA (d + 4),18446744073709551616⟩ (18446744073709551613 + 1 + 1) (I (0 + 1:Nat)) v (pt m.next 0 0) (pt m1.next 0 0) (sv s) m3=Q3p ⟨TA (d + 4),18446744073709551616⟩ (Qd ⟨TA (d + 4),18446744073709551616⟩ (18446744073709551613 + 1)) v (I (1:Nat)) (pt m.next 0 0) (pt m1.next 0 0) (I (1:Nat)) (sv s) m3:=by
          rw [Qd]
          unfold Q73 Q9x
          simp only [Qf,X0,X8]
          rfl
        rw [st1]
        cases he1:pEnd w1 with
        | none =>
          obtain ⟨m4,t1,t2⟩:=it3 he1
          have hE:prH s=none:=by unfold prH; simp only [hws,he0,he1]
          rw [hE]
          exact ⟨m4,t1,F1.trans (F2.trans (q2.trans t2))⟩
        | some bn =>
          obtain ⟨b,pn⟩:=bn
          obtain ⟨b3,b4⟩:=Xff he1
          obtain ⟨m4,t1,t2,t3,t4⟩:=it4 b pn he1
          rw [t1]
          have n4:m3.next ≤ m4.next:=t2.next
          have S4:SL m4 v [w0,w1,w2]:=hb2 m4 (by omega) (by rw [t3 bs (by omega) (by omega),q3 bs (by omega) (by omega),old2 bs hb1])
          have g4:m4.get m.next=some (.cells Q7 0 0 false (some (2 * Q3 + 1))):=by rw [t3 _ (by omega) (by omega),q3 _ (by omega) (by omega),old2 _ n1]; exact g1
          have h4:m4.get m1.next=some (.cells [.int .u32 (a:Int),.int .u32 (b:Int),.int .u8 0,.int .u16 (pm:Int),.int .u16 (pn:Int)] 0 0 false (some (2 * Q3 + 1))):=t4
          have F4:Fb m.next m0 m4:=F1.trans (F2.trans (q2.trans t2))
          -- the last word
          obtain ⟨p,l1,l2⟩:=S4.at (i:=2) (w:=w2) rfl
          have l1:X9 1 v (.int .i64 2)=some p:=l1
          obtain ⟨u,e,mP,c1,c2,c3⟩:=c_Pu 8 (.inr rfl) w2 (by omega) (d + 4) m4
          have c1:TA (d + 4) Q9 [sv w2,.int .i64 10,.int .i64 8] m4=_:=c1
          have gP:mP.get m.next=some (.cells Q7 0 0 false (some (2 * Q3 + 1))):=by rw [c2.get _ (by omega) (by simp)]; exact g4
          have hP:mP.get m1.next=some (.cells [.int .u32 (a:Int),.int .u32 (b:Int),.int .u8 0,.int .u16 (pm:Int),.int .u16 (pn:Int)] 0 0 false (some (2 * Q3 + 1))):=by rw [c2.get _ (by omega) (by simp)]; exact h4
          have FP:Fb m.next m0 mP:=F4.trans (Fr.toFb c2 (by omega))
          rw [Qd]
          unfold Q73 Qe0 Qdz Qdy
          simp only [Qf,X0,X8]
          rw [if_neg (by omega)]
          simp only [l1,l2,X0,c1,X5,ex0,ex1,c_int,Xg]
          obtain ⟨m5,x1,x2,x3,x4,x5⟩:=Xes (o:=2) hP (.int .u8 (IntKind.u8.wrap u)) rfl rfl (by simp) (by omega:m.next ≤ m1.next)
          have x1:X7 1 (pt m1.next (0 + 2) 0) (.int .u8 (IntKind.u8.wrap u)) mP=some m5:=x1
          have g6:m5.get m.next=some (.cells Q7 0 0 false (some (2 * Q3 + 1))):=by rw [x5 _ (by omega)]; exact gP
          obtain ⟨mF,y1,y2,_⟩:=X14 (n:=5) (tail:=[I 4]) g6 rfl (vs:=(hdr 0 0 0 0 0).cells.toList) rfl rfl (Nat.le_refl m.next)
          have y1:(bp (unt (X7 5 (pt m.next 0 0) (hdr 0 0 0 0 0) m5)) fun _ m_1=>ob (ob (X6 true 5 (pt m.next 0 0) m_1) fun v=>ob (some [Value.int .i64 4]) fun l=>some (v :: l)) fun l=>some (X1a l,m_1))=some (hdrV none,mF):=y1
          simp only [x1,Xe]
          rcases c3 with ⟨p8,z1,rfl,rfl⟩ | ⟨z1,q,rfl⟩
          . have hp8:p8 ≤ 255:=Xng z1
            have w8:IntKind.u8.wrap (p8:Int)=p8:=by rw [IntWalk.u8_in _ (by omega)]
            rw [w8] at x4
            have hb:HB a b p8 pm pn:=⟨b1,b3,hp8,b2,b4⟩
            have ld:X6 true 5 (pt m1.next 0 0) m5=some (hdr a b p8 pm pn):=Xk x4 (by simp) rfl
            have ct:TA (d + 4) Q6v [hdr a b p8 pm pn] m5=_:=c_headerText hb (d + 1) m5
            unfold Q7r
            simp only [nilI,X0,Xb,ld,ct,X5,Qf6,X8,aB50]
            by_cases hT:X2j a b p8 pm pn=s
            . have hE:prH s=some (a,pm,b,pn,p8):=by unfold prH; simp only [hws,he0,he1,z1,hT,if_true]
              rw [hE,if_neg (by simpa using hT)]
              obtain ⟨mG,v1,v2,_⟩:=X14 (n:=5) (tail:=[I 0]) g6 rfl (vs:=(hdr a b p8 pm pn).cells.toList) rfl rfl (Nat.le_refl m.next)
              exact ⟨mG,v1,FP.trans (x2.trans v2)⟩
            . have hE:prH s=none:=by unfold prH; simp only [hws,he0,he1,z1,hT,if_false]
              rw [hE,if_pos hT]
              exact ⟨mF,y1,FP.trans (x2.trans y2)⟩
          . have hE:prH s=none:=by
              unfold prH
              simp only [hws,he0,he1]
              cases h:parseUintB 8 w2 with
              | ok n=>exact absurd h (z1 n)
              | _=>rfl
            rw [hE]
            unfold Q7r
            simp only [Xrp,X0,Xd,aB50]
            exact ⟨mF,y1,FP.trans (x2.trans y2)⟩
    . rw [if_pos (by omega)]
      have hE:prH s=none:=by
        unfold prH
        split
        . rename_i h; rw [h] at h3; simp at h3
        . rfl
      rw [hE]
      simp only [aB50,X0]
      exact ⟨mE,r1,F1.trans r2⟩
  obtain ⟨m1,k1,k2⟩:=body
  refine Xq (m1:=m1) ?_ (F0.trans k2) (by cases prH s <;> rfl)
  unfold Q7m
  rw [Xh]
  exact k1
end Go.Ab.Sh

set_option maxRecDepth 100000
set_option linter.unusedSimpArgs false
set_option linter.unusedVariables false
namespace Go.Ab
open Go Go.Lib
theorem X2i (n:Nat) (c:UInt8) (h:isD c=false):c ∉ decDigits n:=by
  intro hc
  have:=List.all_eq_true.mp (Xf9 n) c hc
  rw [h] at this
  cases this
theorem X5q {c:UInt8} {x:Str} (y:Str) (h:c ∉ x):split c (x ++ c :: y)=x :: split c y:=X4o (X3r y h)
theorem Xbr {c:UInt8} {x:Str} (h:c ∉ x):split c x=[x]:=X4l (Xcd h)
theorem Xd6 (c:UInt8):∀ (n:Nat) (s:Str),s.length ≤ n→∀ ws,split c s=ws→s=Xw [c] ws∧∀ w ∈ ws,c ∉ w
  | n,s,hn,ws,h=>by
    cases hc:cut c s with
    | none =>
      rw [X4l hc] at h
      subst h
      refine ⟨by simp [Xw,List.intercalate],fun w hw=>?_⟩
      simp only [List.mem_singleton] at hw
      subst hw
      exact Xna hc
    | some p =>
      obtain ⟨x,y⟩:=p
      have hl:=X4t hc
      rw [X4o hc] at h
      subst h
      cases n with
      | zero=>omega
      | succ n =>
        obtain ⟨q1,q2⟩:=Xd6 c n y (by omega) _ rfl
        obtain ⟨e1,e2⟩:=X5x hc
        refine ⟨?_,fun w hw=>?_⟩
        . rw [e1]
          cases hs:split c y with
          | nil=>exact absurd hs (X3f c y)
          | cons a l =>
            rw [hs] at q1
            rw [q1]
            simp [Xw,List.intercalate,List.intersperse]
        . rcases List.mem_cons.mp hw with e | e
          . subst e; exact e2
          . exact q2 w e
theorem split_eq_iff {c:UInt8} {s:Str} {ws:List Str}:split c s=ws ↔ ws ≠ []∧s=Xw [c] ws∧∀ w ∈ ws,c ∉ w:=by
  constructor
  . intro h
    obtain ⟨q1,q2⟩:=Xd6 c s.length s (Nat.le_refl _) ws h
    exact ⟨fun e=>X3f c s (h.trans e),q1,q2⟩
  . rintro ⟨h1,rfl,h3⟩
    induction ws with
    | nil=>exact absurd rfl h1
    | cons w ws ih =>
      cases ws with
      | nil=>exact (by simpa [Xw,List.intercalate] using Xbr (h3 w (by simp)))
      | cons w2 ws =>
        have e:Xw [c] (w :: w2 :: ws)=w ++ c :: Xw [c] (w2 :: ws):=by simp [Xw,List.intercalate,List.intersperse]
        rw [e,X5q _ (h3 w (by simp)),ih (by simp) (fun x hx=>h3 x (List.mem_cons_of_mem _ hx))]
theorem X64 (a:Nat) (c:UInt8) (h:isD c=false) (h2:c ≠ 46):c ∉ X1j a:=by
  simp only [List.mem_append,List.mem_cons,List.not_mem_nil,or_false,not_or]
  exact ⟨⟨⟨⟨⟨⟨X2i _ c h,h2⟩,X2i _ c h⟩,h2⟩,X2i _ c h⟩,h2⟩,X2i _ c h⟩
theorem d46:isD 46=false:=by decide
theorem addrP_iff {s:Str} {a:Nat}:X2p s=some a ↔ s=X1j a∧a < 4294967296:=by
  constructor
  . intro h
    refine ⟨?_,Sh.addrP_lt h⟩
    unfold X2p at h
    split at h
    . rename_i h4
      obtain ⟨w0,w1,w2,w3,hws⟩:∃ w0 w1 w2 w3,split 46 s=[w0,w1,w2,w3]:=by
        match hs:split 46 s,h4 with
        | [a,b,c,d],_=>exact ⟨a,b,c,d,rfl⟩
      rw [hws] at h
      unfold X6r at h
      cases e0:num 255 w0 with
      | none=>rw [e0] at h; cases h
      | some n0 =>
        rw [e0] at h
        simp only at h
        unfold X6r at h
        cases e1:num 255 w1 with
        | none=>rw [e1] at h; cases h
        | some n1 =>
          rw [e1] at h
          simp only at h
          unfold X6r at h
          cases e2:num 255 w2 with
          | none=>rw [e2] at h; cases h
          | some n2 =>
            rw [e2] at h
            simp only at h
            unfold X6r at h
            cases e3:num 255 w3 with
            | none=>rw [e3] at h; cases h
            | some n3 =>
              rw [e3] at h
              simp only at h
              have h:some ((((0 * 256 + n0) * 256 + n1) * 256 + n2) * 256 + n3)=some a:=h
              cases h
              obtain ⟨rfl,b0⟩:=num_some.mp e0
              obtain ⟨rfl,b1⟩:=num_some.mp e1
              obtain ⟨rfl,b2⟩:=num_some.mp e2
              obtain ⟨rfl,b3⟩:=num_some.mp e3
              obtain ⟨_,q,_⟩:=split_eq_iff.mp hws
              rw [q]
              have p0:((((0 * 256 + n0) * 256 + n1) * 256 + n2) * 256 + n3) / 16777216=n0:=by omega
              have p1:((((0 * 256 + n0) * 256 + n1) * 256 + n2) * 256 + n3) / 65536 % 256=n1:=by omega
              have p2:((((0 * 256 + n0) * 256 + n1) * 256 + n2) * 256 + n3) / 256 % 256=n2:=by omega
              have p3:((((0 * 256 + n0) * 256 + n1) * 256 + n2) * 256 + n3) % 256=n3:=by omega
              show Xw [46] [decDigits n0,decDigits n1,decDigits n2,decDigits n3]=X1j _
              unfold X1j
              rw [p0,p1,p2,p3]
              simp [Xw,List.intercalate,List.intersperse]
    . cases h
  . rintro ⟨rfl,ha⟩
    have hs:split 46 (X1j a)=[decDigits (a / 16777216),decDigits (a / 65536 % 256),decDigits (a / 256 % 256),decDigits (a % 256)]:=by
      refine split_eq_iff.mpr ⟨by simp,by simp [Xw,List.intercalate,List.intersperse],fun w hw=>?_⟩
      simp only [List.mem_cons,List.not_mem_nil,or_false] at hw
      rcases hw with rfl | rfl | rfl | rfl <;> exact X2i _ 46 d46
    unfold X2p
    rw [hs,if_pos (by rfl)]
    unfold X6r
    rw [X2a (by omega)]
    simp only
    unfold X6r
    rw [X2a (by omega)]
    simp only
    unfold X6r
    rw [X2a (by omega)]
    simp only
    unfold X6r
    rw [X2a (by omega)]
    show some _=some _
    congr 1
    omega
theorem d58:isD 58=false:=by decide
theorem d32:isD 32=false:=by decide
theorem Xsx (a m:Nat):cut 58 (endT a m)=some (X1j a,decDigits m):=by
  unfold endT
  rw [show X1j a ++ [58] ++ decDigits m=X1j a ++ 58 :: decDigits m by simp]
  exact X3r _ (X64 a 58 d58 (by decide))
theorem endP_iff {x:Str} {a n:Nat}:endP x=some (a,n) ↔ x=endT a n∧a < 4294967296∧n ≤ 65535:=by
  constructor
  . intro h
    unfold endP at h
    split at h
    . cases h
    . rename_i u v hc
      split at h
      . rename_i a' n' h1 h2
        cases h
        obtain ⟨rfl,q1⟩:=addrP_iff.mp h1
        obtain ⟨rfl,q2⟩:=num_some.mp h2
        obtain ⟨rfl,_⟩:=X5x hc
        exact ⟨by unfold endT; simp,q1,q2⟩
      . cases h
  . rintro ⟨rfl,h1,h2⟩
    unfold endP
    rw [Xsx]
    simp only [addrP_iff.mpr ⟨rfl,h1⟩,X2a h2]
theorem X47 (a m:Nat):(32:UInt8) ∉ endT a m:=by
  unfold endT
  simp only [List.mem_append,List.mem_singleton,not_or]
  exact ⟨⟨by simpa only [List.mem_append,List.mem_singleton,not_or] using X64 a 32 d32 (by decide),by decide⟩,X2i m 32 d32⟩
theorem X8y (a b p m n:Nat):X2j a b p m n=endT a m ++ 32 :: (endT b n ++ 32 :: decDigits p):=by unfold X2j; simp
theorem hdrP_iff {s:Str} {a m b n p:Nat}:hdrP s=some (a,m,b,n,p) ↔ s=X2j a b p m n∧HB a b p m n:=by
  constructor
  . intro h
    unfold hdrP at h
    split at h
    . cases h
    . rename_i x rest h1
      split at h
      . cases h
      . rename_i y z h2
        split at h
        . rename_i a' m' b' n' p' e1 e2 e3
          cases h
          obtain ⟨rfl,q1,q2⟩:=endP_iff.mp e1
          obtain ⟨rfl,q3,q4⟩:=endP_iff.mp e2
          obtain ⟨rfl,q5⟩:=num_some.mp e3
          obtain ⟨rfl,_⟩:=X5x h1
          obtain ⟨rfl,_⟩:=X5x h2
          exact ⟨(X8y _ _ _ _ _).symm,q1,q3,q5,q2,q4⟩
        . cases h
  . rintro ⟨rfl,h⟩
    unfold hdrP
    rw [X8y,X3r _ (X47 a m)]
    simp only [X3r _ (X47 b n),endP_iff.mpr ⟨rfl,h.a,h.m⟩,endP_iff.mpr ⟨rfl,h.b,h.n⟩,X2a h.p]
theorem Xgi {a n:Nat} (ha:a < 4294967296) (hn:n ≤ 65535):pEnd (endT a n)=some (a,n):=by
  unfold pEnd
  rw [Xsx]
  simp only [addrP_iff.mpr ⟨rfl,ha⟩,Xqd 16 n (by omega) hn]
theorem prH_iff {s:Str} {a m b n p:Nat}:prH s=some (a,m,b,n,p) ↔ s=X2j a b p m n∧HB a b p m n:=by
  constructor
  . intro h
    unfold prH at h
    split at h
    . rename_i w0 w1 w2 hws
      split at h
      . rename_i a' m' b' n' p' e1 e2 e3
        split at h
        . rename_i hT
          cases h
          obtain ⟨q1,q2⟩:=Xff e1
          obtain ⟨q3,q4⟩:=Xff e2
          exact ⟨hT.symm,q1,q3,Xng e3,q2,q4⟩
        . cases h
      . cases h
    . cases h
  . rintro ⟨rfl,h⟩
    have hs:split 32 (X2j a b p m n)=[endT a m,endT b n,decDigits p]:=by
      rw [X8y,X5q _ (X47 a m),X5q _ (X47 b n),Xbr (X2i p 32 d32)]
    unfold prH
    rw [hs]
    simp only [Xgi h.a h.m,Xgi h.b h.n,Xqd 8 p (by omega) h.p,if_true]
theorem Xw0 (s:Str):prH s=hdrP s:=by
  apply Option.ext
  intro x
  obtain ⟨a,m,b,n,p⟩:=x
  constructor
  . intro h
    exact hdrP_iff.mpr (prH_iff.mp h)
  . intro h
    exact prH_iff.mpr (hdrP_iff.mp h)
theorem Xml (s:Str):(Sh.prefP s).1 < 4294967296∧(Sh.prefP s).2.1 ≤ 32:=by
  unfold Sh.prefP
  split
  . simp
  . split
    . rename_i a b h1 h2
      split
      . exact ⟨Sh.addrP_lt h1,(num_some.mp h2).2⟩
      . simp
    . simp
end Go.Ab

set_option maxRecDepth 100000
set_option linter.unusedSimpArgs false
set_option linter.unusedVariables false
namespace Go.Ab
open Go Go.Lib
theorem getB (l:Str) (i:Nat) (h:i < l.length):(⟨⟨l⟩⟩:ByteArray).get! i=l[i]:=by
  show (⟨l⟩:Array UInt8)[i]! = _
  rw [getElem!_pos (⟨l⟩:Array UInt8) i h]
  rfl
theorem Xq9 (l:Str) (i:Nat) (h:i < l.length) (hc:(l[i]).toNat < 128):Utf8.decode ⟨⟨l⟩⟩ i=((l[i]).toNat,1):=by
  unfold Utf8.decode
  simp only [Nat.add_zero,getB l i h]
  rw [if_pos hc]
theorem Xtd (l:Str) (i:Nat) (h:i < l.length) (hc:128 ≤ (l[i]).toNat):128 ≤ (Utf8.decode ⟨⟨l⟩⟩ i).1∧((Utf8.decode ⟨⟨l⟩⟩ i).1=65533∨Utf8.valid ((Utf8.decode ⟨⟨l⟩⟩ i).1:Int)=true):=by
  unfold Utf8.decode
  simp only [Nat.add_zero,getB l i h]
  rw [if_neg (by omega)]
  split
  . rename_i h2
    split
    . rename_i h3
      refine ⟨h3,.inr ?_⟩
      have:=Nat.mod_lt (l[i]).toNat (by omega:0 < 32)
      have:=Nat.mod_lt ((⟨⟨l⟩⟩:ByteArray).get! (i + 1)).toNat (by omega:0 < 64)
      unfold Utf8.valid
      simp
      omega
    . exact ⟨by show 128 ≤ Utf8.runeError; unfold Utf8.runeError; omega,.inl rfl⟩
  . split
    . split
      . rename_i h3
        simp only [Bool.and_eq_true,decide_eq_true_eq] at h3
        exact ⟨by have:=h3.1; omega,.inr h3.2⟩
      . exact ⟨by show 128 ≤ Utf8.runeError; unfold Utf8.runeError; omega,.inl rfl⟩
    . split
      . split
        . rename_i h3
          simp only [Bool.and_eq_true,decide_eq_true_eq] at h3
          exact ⟨by have:=h3.1; omega,.inr h3.2⟩
        . exact ⟨by show 128 ≤ Utf8.runeError; unfold Utf8.runeError; omega,.inl rfl⟩
      . exact ⟨by show 128 ≤ Utf8.runeError; unfold Utf8.runeError; omega,.inl rfl⟩
def isL (c:UInt8):Bool:=decide (97 ≤ c.toNat∧c.toNat ≤ 122∨65 ≤ c.toNat∧c.toNat ≤ 90)
def isO (c:UInt8):Bool:=decide (48 ≤ c.toNat∧c.toNat ≤ 57∨c.toNat=45∨c.toNat=95∨c.toNat=46∨c.toNat=47)
def Xy (s:Str):Bool:=match s with
  | []=>false
  | a :: r=>decide (s.length ≤ 32) && (isL a && r.all fun c=>isL c || isO c)
def nmGo:Bool→Str→Bool
  | _,[]=>true
  | true,a :: r=>isL a && nmGo false r
  | false,a :: r=>(isL a || isO a) && nmGo false r
theorem Xdc:∀ (r:Str),nmGo false r=r.all fun c=>isL c || isO c
  | []=>rfl
  | a :: r=>by
    show ((isL a || isO a) && nmGo false r)=_
    rw [Xdc r]; rfl
theorem Xj8 (s:Str):Xy s=(decide (s ≠ []) && (decide (s.length ≤ 32) && nmGo true s)):=by
  cases s with
  | nil=>rfl
  | cons a r =>
    show (decide _ && (isL a && r.all _))=(decide _ && (decide _ && (isL a && nmGo false r)))
    rw [Xdc]
    simp
end Go.Ab
namespace Go.Ab.Sh
open Go Go.Ab Go.Lib
theorem c_IdxByte (s:Str) (c:Nat) (hc:c < 256) (d:Nat) (m:Mem):TA d Q1c [sv s,.int .u8 (c:Int)] m=some (I (indexByte s (UInt8.ofNat c)),m):=by
  refine Xgy (o:=Qgs) (by kernel_rfl) ?_ d
  show (if Q1c=Q1c∧IntKind.u8=IntKind.u8 then (match some (Xeo s (c:Int)) with | some v=>some (v,m) | none=>none) else none)=_
  rw [if_pos ⟨rfl,rfl⟩,Xcz,Int.toNat_natCast]
theorem c_IndexByte (s:Str) (c:Nat) (hc:c < 256) (d:Nat) (m:Mem):TA (d + 1) Q5h [sv s,.int .u8 (c:Int)] m=some (I (indexByte s (UInt8.ofNat c)),m):=by
  rw [X7v]
  refine Xq (m1:=X4 m m.next) ?_ (.refl _ _) rfl
  unfold Q3q
  simp only [c_IdxByte s c hc,X5]
abbrev odd4:Str:=[45,95,46,47]
theorem Xm8 (c:UInt8):(indexByte odd4 c < 0) ↔ ¬ (c.toNat=45∨c.toNat=95∨c.toNat=46∨c.toNat=47):=by
  by_cases h1:c=45
  . subst h1; decide
  by_cases h2:c=95
  . subst h2; decide
  by_cases h3:c=46
  . subst h3; decide
  by_cases h4:c=47
  . subst h4; decide
  have n1:¬ c.toNat=45:=fun h=>h1 (UInt8.toNat_inj.mp h)
  have n2:¬ c.toNat=95:=fun h=>h2 (UInt8.toNat_inj.mp h)
  have n3:¬ c.toNat=46:=fun h=>h3 (UInt8.toNat_inj.mp h)
  have n4:¬ c.toNat=47:=fun h=>h4 (UInt8.toNat_inj.mp h)
  have e1:((45:UInt8) == c)=false:=by simp; exact fun h=>h1 h.symm
  have e2:((95:UInt8) == c)=false:=by simp; exact fun h=>h2 h.symm
  have e3:((46:UInt8) == c)=false:=by simp; exact fun h=>h3 h.symm
  have e4:((47:UInt8) == c)=false:=by simp; exact fun h=>h4 h.symm
  simp [indexByte,e1,e2,e3,e4,n1,n2,n3,n4]
theorem Xpx (l:Str) (c:UInt8) (hc:128 ≤ c.toNat) (hl:∀ x ∈ l,x.toNat < 128):indexByte l c=-1:=by
  induction l with
  | nil=>rfl
  | cons a l ih =>
    have e:(a == c)=false:=by
      simp
      intro h
      subst h
      have:=hl a (by simp)
      omega
    unfold indexByte
    rw [e,ih (fun x hx=>hl x (List.mem_cons_of_mem _ hx))]
    rfl
theorem c_Rune_lo (c:Nat) (hc:c < 128) (d:Nat) (m:Mem):TA (d + 2) Q1u [sv odd4,.int .i32 (c:Int)] m=some (I (indexByte odd4 (UInt8.ofNat c)),m):=by
  rw [X3k]
  refine Xq (m1:=X4 m m.next) ?_ (.refl _ _) rfl
  have w:IntKind.u8.wrap (c:Int)=c:=by rw [IntWalk.u8_in _ (by omega)]
  unfold Q1t Q4l Q2w
  simp only [Q7y,X0,X8,if_pos (Int.natCast_nonneg c),Qf,if_pos (by omega:(c:Int) < 128),c_int,w,X5,c_IndexByte odd4 c (by omega)]
theorem c_ValidRune (c:Nat) (hv:Utf8.valid (c:Int)=true) (d:Nat) (m:Mem):TA (d + 1) Q4v [.int .i32 (c:Int)] m=some (.bool true,m):=by
  rw [X4j]
  refine Xq (m1:=X4 m m.next) ?_ (.refl _ _) rfl
  unfold Utf8.valid at hv
  simp at hv
  unfold Q1w Q71 Q4d Q4e
  simp only [Q7y,X0,X8,if_pos (Int.natCast_nonneg c),Qf]
  by_cases h1:(c:Int) < 55296
  . rw [if_pos h1]
  . rw [if_neg h1,if_pos (by omega),if_pos (by omega)]
theorem Xpo (c:Nat) (h:128 ≤ c) (hv:Utf8.valid (c:Int)=true):∃ pre x,Utf8.encode (c:Int)=⟨⟨pre ++ [x]⟩⟩∧1 ≤ pre.length∧pre.length ≤ 3∧128 ≤ x.toNat:=by
  have hx:128 ≤ (UInt8.ofNat (0x80 + c % 64)).toNat:=by
    have:=Nat.mod_lt c (by omega:0 < 64)
    rw [UInt8.toNat_ofNat']
    omega
  unfold Utf8.encode
  simp only [hv,if_true,Int.toNat_natCast]
  rw [if_neg (by omega)]
  split
  . exact ⟨[UInt8.ofNat (0xC0 + c / 64)],UInt8.ofNat (0x80 + c % 64),rfl,by simp,by simp,hx⟩
  . split
    . exact ⟨[UInt8.ofNat (0xE0 + c / 4096),UInt8.ofNat (0x80 + c / 64 % 64)],UInt8.ofNat (0x80 + c % 64),rfl,by simp,by simp,hx⟩
    . exact ⟨[UInt8.ofNat (0xF0 + c / 262144),UInt8.ofNat (0x80 + c / 4096 % 64),UInt8.ofNat (0x80 + c / 64 % 64)],UInt8.ofNat (0x80 + c % 64),rfl,by simp,by simp,hx⟩
theorem Xuo (l:Str) (k:Nat) (hk:k ≤ l.length) (z:Int) (hz:z=k):X11 (sv l) (some (I z)) none=some (sv (l.drop k)):=by subst hz; exact X3e l k hk
theorem c_Rune_hi (c:Nat) (hc:128 ≤ c) (hv:c=65533∨Utf8.valid (c:Int)=true) (d:Nat) (m:Mem):TA (d + 3) Q1u [sv odd4,.int .i32 (c:Int)] m=some (I (-1),m):=by
  rw [X3k]
  have h0:¬ ((c:Int) < 128):=by omega
  by_cases he:c=65533
  . subst he
    have nx:∀ (m:Mem) (b i:Nat),m.get b=some (.siter ⟨⟨odd4⟩⟩ i)→(hi:i < 4)→X3h (pt b 0 0) m=some (.tuple ⟨[.bool true,I i,.int .i32 ((odd4[i]).toNat:Int)]⟩,m.put b (.siter ⟨⟨odd4⟩⟩ (i + 1))):=by
      intro m b i hg hi
      have hdec:Utf8.decode ⟨⟨odd4⟩⟩ i=((odd4[i]).toNat,1):=Xq9 odd4 i hi (by
        have hlow:∀ y ∈ odd4,y.toNat < 128:=by decide
        exact hlow _ (List.getElem_mem _))
      show (match m.get b with
        | some (.siter s pos)=>if pos < s.size then (let (c,w):=Utf8.decode s pos; some (Value.tuple #[.bool true,.int .i64 pos,.int .i32 c],m.put b (.siter s (pos + w)))) else some (Value.tuple #[.bool false],m)
        | _=>none)=_
      rw [hg]
      show (if i < 4 then (let (c,w):=Utf8.decode ⟨⟨odd4⟩⟩ i; some (Value.tuple #[.bool true,.int .i64 i,.int .i32 c],m.put b (.siter ⟨⟨odd4⟩⟩ (i + w)))) else some (Value.tuple #[.bool false],m))=_
      rw [if_pos hi,hdec]
    have nE:∀ (m:Mem) (b:Nat),m.get b=some (.siter ⟨⟨odd4⟩⟩ 4)→X3h (pt b 0 0) m=some (.tuple ⟨[.bool false]⟩,m):=by
      intro m b hg
      show (match m.get b with
        | some (.siter s pos)=>if pos < s.size then (let (c,w):=Utf8.decode s pos; some (Value.tuple #[.bool true,.int .i64 pos,.int .i32 c],m.put b (.siter s (pos + w)))) else some (Value.tuple #[.bool false],m)
        | _=>none)=_
      rw [hg]
      rfl
    have loop:∀ (k i j:Nat) (m1:Mem) (b:Nat),i + k=4→k < j→m.next ≤ b→m1.get b=some (.siter ⟨⟨odd4⟩⟩ i)→∃ m2,Q2x ⟨TA (d + 2),18446744073709551616⟩ j (pt b 0 0) m1=some (I (-1),m2)∧Fb m.next m1 m2:=by
      intro k
      induction k with
      | zero =>
        intro i j m1 b hi hj hb hg
        obtain ⟨j,rfl⟩:∃ q,j=q + 1:=⟨j - 1,by omega⟩
        have hi4:i=4:=by omega
        subst hi4
        refine ⟨m1,?_,.refl _ _⟩
        unfold Q2x Qam
        simp only [nE m1 b hg,X5,ex0,X0,Xb]
      | succ k ih =>
        intro i j m1 b hi hj hb hg
        obtain ⟨j,rfl⟩:∃ q,j=q + 1:=⟨j - 1,by omega⟩
        obtain ⟨m2,q1,q2⟩:=ih (i + 1) j (m1.put b (.siter ⟨⟨odd4⟩⟩ (i + 1))) b (by omega) (by omega) hb (by rw [Mem.get_put,if_pos rfl])
        refine ⟨m2,?_,((Fb.refl _ _).put _ hb).trans q2⟩
        have hne:¬ (((odd4[i]'(by show i < 4; omega)).toNat:Int)=65533):=by
          have:=UInt8.toNat_lt (odd4[i]'(by show i < 4; omega))
          omega
        unfold Q2x
        simp only [nx m1 b i hg (by omega),X5,ex0,ex1,ex2,X0,Xd,Qp,X8,if_neg hne]
        exact q1
    obtain ⟨m2,q1,q2⟩:=loop 4 0 18446744073709551616 ((X4 m m.next).push (.siter ⟨⟨odd4⟩⟩ 0)) m.next rfl (by omega) (Nat.le_refl _) (Xl (X4 m m.next) _)
    refine Xq (m1:=m2) ?_ ((Fb.push (m:=X4 m m.next) _ (Nat.le_refl _)).trans q2) rfl
    have hr:X33 (sv odd4) (X4 m m.next)=some (pt m.next 0 0,(X4 m m.next).push (.siter ⟨⟨odd4⟩⟩ 0)):=rfl
    unfold Q1t Q4l Q2w Q6p Qan
    simp only [Q7y,X0,X8,if_pos (Int.natCast_nonneg 65533),Qf,if_neg h0,Qp]
    rw [if_pos (by rfl)]
    simp only [hr,X5]
    exact q1
  . have hv:Utf8.valid (c:Int)=true:=hv.resolve_left he
    obtain ⟨pre,x,e1,e2,e3,e4⟩:=Xpo c hc hv
    refine Xq (m1:=X4 m m.next) ?_ (.refl _ _) rfl
    have hcv:conv .intStr (.int .i32 (c:Int)) (X4 m m.next)=some (sv (pre ++ [x]),X4 m m.next):=by
      show some (Value.string (Utf8.encode (c:Int)),X4 m m.next)=_
      rw [e1]; rfl
    have w1:IntKind.i64.wrap (((pre ++ [x]).length:Int) - 1)=(pre.length:Int):=by rw [IntWalk.i64_in _ (by simp; omega)]; simp
    have w2:IntKind.i64.wrap ((pre.length:Int) + 1)=((pre.length + 1:Nat):Int):=by rw [IntWalk.i64_in _ (by omega)]; omega
    have hne:¬ ((c:Int)=65533):=by omega
    have lt4:(pre.length:Int) < (odd4.length:Int):=by show (pre.length:Int) < (4:Nat); omega
    have o4:odd4.length=4:=rfl
    have hlow:∀ y ∈ odd4,y.toNat < 128:=by decide
    have hix:(odd4[pre.length]'(by rw [o4]; omega)).toNat < 128:=hlow _ (List.getElem_mem _)
    have hpx:(pre ++ [x])[pre.length]'(by simp)=x:=by simp
    have hxl:=UInt8.toNat_lt x
    have hd:indexByte (odd4.drop (pre.length + 1)) (UInt8.ofNat x.toNat)=-1:=by
      have:UInt8.ofNat x.toNat=x:=by apply UInt8.toNat_inj.mp; rw [UInt8.toNat_ofNat']; omega
      rw [this]
      exact Xpx _ x e4 (fun y hy=>hlow y (List.mem_of_mem_drop hy))
    have cI:=c_IndexByte (odd4.drop (pre.length + 1)) x.toNat hxl (d + 1) (X4 m m.next)
    rw [hd] at cI
    unfold Q1t Q4l Q2w Q6p Qao Qap Qaq Qar Q99
    simp only [Q7y,X0,X8,if_pos (Int.natCast_nonneg c),Qf,if_neg h0,Qp,if_neg hne,c_ValidRune c hv (d + 1),X5,X1u,Bool.not_true,Xb,hcv,X3a,Q9t,w1]
    show Qo ⟨TA (d + 2),18446744073709551616⟩ (18446744073709551615 + 1) _ _ _ _ _=_
    unfold Qo Q9a
    have i1:=X76 odd4 .i64 pre.length (by rw [o4]; omega)
    have i2:=X76 (pre ++ [x]) .i64 pre.length (by simp)
    rw [hpx] at i2
    have hq:((odd4[pre.length]'(by rw [o4]; omega)).toNat:Int) ≠ (x.toNat:Int):=by omega
    simp only [X3a,X0,Qf,X8,if_pos lt4,i1,i2,Q1o,if_pos hq,Qz,w2,X3e odd4 (pre.length + 1) (by rw [o4]; omega),cI,X5]
    rfl
theorem Xfq {β:Type} (c:UInt8) (f:Bool→Option β) :
    (if (97:Int) ≤ (c.toNat:Int) then (if (c.toNat:Int) ≤ 122 then f true else if (65:Int) ≤ (c.toNat:Int) then f (decide ((c.toNat:Int) ≤ 90)) else f false) else if (65:Int) ≤ (c.toNat:Int) then f (decide ((c.toNat:Int) ≤ 90)) else f false)=f (isL c):=by
  by_cases h1:(97:Int) ≤ (c.toNat:Int)
  . rw [if_pos h1]
    by_cases h2:(c.toNat:Int) ≤ 122
    . rw [if_pos h2,show isL c=true by unfold isL; simp; omega]
    . rw [if_neg h2,if_pos (by omega),show decide ((c.toNat:Int) ≤ 90)=false by simp; omega,show isL c=false by unfold isL; simp; omega]
  . rw [if_neg h1]
    by_cases h3:(65:Int) ≤ (c.toNat:Int)
    . rw [if_pos h3]
      congr 1
      unfold isL
      rw [decide_eq_decide]
      omega
    . rw [if_neg h3,show isL c=false by unfold isL; simp; omega]
theorem Xms {l:Str} {m:Mem} {b i:Nat} (hg:m.get b=some (.siter ⟨⟨l⟩⟩ i)) (hi:i < l.length):X3h (pt b 0 0) m=some (.tuple ⟨[.bool true,I i,.int .i32 ((Utf8.decode ⟨⟨l⟩⟩ i).1:Int)]⟩,m.put b (.siter ⟨⟨l⟩⟩ (i + (Utf8.decode ⟨⟨l⟩⟩ i).2))):=by
  show (match m.get b with
    | some (.siter s pos)=>if pos < s.size then (let (c,w):=Utf8.decode s pos; some (Value.tuple #[.bool true,.int .i64 pos,.int .i32 c],m.put b (.siter s (pos + w)))) else some (Value.tuple #[.bool false],m)
    | _=>none)=_
  rw [hg]
  show (if i < l.length then (let (c,w):=Utf8.decode ⟨⟨l⟩⟩ i; some (Value.tuple #[.bool true,.int .i64 i,.int .i32 c],m.put b (.siter ⟨⟨l⟩⟩ (i + w)))) else some (Value.tuple #[.bool false],m))=_
  rw [if_pos hi]
theorem Xpk {l:Str} {m:Mem} {b i:Nat} (hg:m.get b=some (.siter ⟨⟨l⟩⟩ i)) (hi:¬ i < l.length):X3h (pt b 0 0) m=some (.tuple ⟨[.bool false]⟩,m):=by
  show (match m.get b with
    | some (.siter s pos)=>if pos < s.size then (let (c,w):=Utf8.decode s pos; some (Value.tuple #[.bool true,.int .i64 pos,.int .i32 c],m.put b (.siter s (pos + w)))) else some (Value.tuple #[.bool false],m)
    | _=>none)=_
  rw [hg]
  show (if i < l.length then _ else _)=_
  rw [if_neg hi]
theorem Xag (d:Nat) (B:Nat) (s:Str) (hs:s.length ≤ 4194304) (b:Nat) (hB:B ≤ b):∀ (rest pre:Str) (m:Mem) (k:Nat),s=pre ++ rest→rest.length < k→m.get b=some (.siter ⟨⟨s⟩⟩ pre.length) →
    ∃ m1,Q1z ⟨TA (d + 3),18446744073709551616⟩ k (pt b 0 0) m=some (.bool (nmGo (decide (pre=[])) rest),m1)∧Fb B m m1
  | [],pre,m,k,he,hk,hg=>by
    obtain ⟨k,rfl⟩:∃ q,k=q + 1:=⟨k - 1,by omega⟩
    refine ⟨m,?_,.refl _ _⟩
    have hn:¬ pre.length < s.length:=by rw [he]; simp
    unfold Q1z Qer Qgg
    simp only [Xpk hg hn,X5,ex0,X0,Xb]
    cases decide (pre=[]) <;> rfl
  | a :: rest,pre,m,k,he,hk,hg=>by
    obtain ⟨k,rfl⟩:∃ q,k=q + 1:=⟨k - 1,by omega⟩
    have hl:pre.length < s.length:=by rw [he]; simp
    have hix:s[pre.length]=a:=by simp [he]
    have e0:Value.string ⟨#[45,95,46,47]⟩=sv odd4:=rfl
    have hF:Fb B m (m.put b (.siter ⟨⟨s⟩⟩ (pre.length + (Utf8.decode ⟨⟨s⟩⟩ pre.length).2))):=(Fb.refl _ _).put _ hB
    unfold Q1z Qer Qgi Qgh
    simp only [Xms hg hl,X5,ex0,ex1,ex2,X0,Xd,Q5u,Q7y,X8]
    by_cases hlo:a.toNat < 128
    . have hdec:=Xq9 s pre.length hl (by rw [hix]; exact hlo)
      rw [hix] at hdec
      rw [hdec] at hF ⊢
      simp only at hF ⊢
      rw [Xfq a fun p5=>Q54 ⟨TA (d + 3),18446744073709551616⟩ (Q1z ⟨TA (d + 3),18446744073709551616⟩ k) (.bool p5) (I pre.length) (.int .i32 (a.toNat:Int)) (pt b 0 0) (m.put b (.siter ⟨⟨s⟩⟩ (pre.length + 1)))]
      obtain ⟨m1,q1,q2⟩:=Xag d B s hs b hB rest (pre ++ [a]) (m.put b (.siter ⟨⟨s⟩⟩ (pre.length + 1))) k (by rw [he]; simp) (by simp at hk; omega) (by rw [Mem.get_put,if_pos rfl]; simp)
      have hnp:decide (pre ++ [a]=[])=false:=by simp
      rw [hnp] at q1
      unfold Q54 Q6h
      simp only [X1u,X0,Xfv]
      cases hL:isL a with
      | true =>
        refine ⟨m1,?_,hF.trans q2⟩
        simp only [Bool.not_true,Bool.false_eq_true,if_false]
        rw [q1]
        have:nmGo (decide (pre=[])) (a :: rest)=nmGo false rest:=by
          cases decide (pre=[])
          . show ((isL a || isO a) && nmGo false rest)=_
            rw [hL]; simp
          . show (isL a && nmGo false rest)=_
            rw [hL]; simp
        rw [this]
      | false =>
        simp only [Bool.not_false,if_true,Qp,X0,X8]
        by_cases hp:pre=[]
        . subst hp
          refine ⟨_,?_,hF⟩
          rw [if_pos (by rfl)]
          have:nmGo (decide (([]:Str)=[])) (a :: rest)=false:=by
            show (isL a && nmGo false rest)=_
            rw [hL]; rfl
          rw [this]
        . have hp0:¬ ((pre.length:Int)=0):=by
            intro h
            exact hp (List.length_eq_zero_iff.mp (by omega))
          rw [if_neg hp0]
          have hgo:nmGo (decide (pre=[])) (a :: rest)=(isO a && nmGo false rest):=by
            rw [show decide (pre=[])=false by simpa using hp]
            show ((isL a || isO a) && nmGo false rest)=_
            rw [hL]; simp
          rw [hgo]
          have ofa:UInt8.ofNat a.toNat=a:=by apply UInt8.toNat_inj.mp; rw [UInt8.toNat_ofNat']; have:=UInt8.toNat_lt a; omega
          have cR:=c_Rune_lo a.toNat hlo (d + 1) (m.put b (.siter ⟨⟨s⟩⟩ (pre.length + 1)))
          rw [ofa] at cR
          have cR:TA (d + 3) Q1u [sv odd4,.int .i32 (a.toNat:Int)] (m.put b (.siter ⟨⟨s⟩⟩ (pre.length + 1)))=_:=cR
          simp only [Qf,X0,X8,e0,cR,X5,Q4s,Xfv,decide_eq_true_eq]
          -- what is no digit is looked up
          have look:(if indexByte odd4 a < 0 then some (Value.bool false,m.put b (.siter ⟨⟨s⟩⟩ (pre.length + 1))) else Q1z ⟨TA (d + 3),18446744073709551616⟩ k (pt b 0 0) (m.put b (.siter ⟨⟨s⟩⟩ (pre.length + 1))))=some (.bool (decide (a.toNat=45∨a.toNat=95∨a.toNat=46∨a.toNat=47) && nmGo false rest),if indexByte odd4 a < 0 then m.put b (.siter ⟨⟨s⟩⟩ (pre.length + 1)) else m1):=by
            by_cases hi:indexByte odd4 a < 0
            . rw [if_pos hi,if_pos hi]
              have:=(Xm8 a).mp hi
              rw [decide_eq_false this]; rfl
            . rw [if_neg hi,if_neg hi,q1]
              have:a.toNat=45∨a.toNat=95∨a.toNat=46∨a.toNat=47:=Decidable.byContradiction fun h=>hi ((Xm8 a).mpr h)
              rw [decide_eq_true this]; rfl
          have hF3:Fb B m (if indexByte odd4 a < 0 then m.put b (.siter ⟨⟨s⟩⟩ (pre.length + 1)) else m1):=by
            split
            . exact hF
            . exact hF.trans q2
          by_cases h48:(a.toNat:Int) < 48
          . rw [if_pos h48,look]
            refine ⟨_,?_,hF3⟩
            have:isO a=decide (a.toNat=45∨a.toNat=95∨a.toNat=46∨a.toNat=47):=by unfold isO; rw [decide_eq_decide]; omega
            rw [this]
          . rw [if_neg h48]
            by_cases h57:(57:Int) < (a.toNat:Int)
            . rw [if_pos h57,look]
              refine ⟨_,?_,hF3⟩
              have:isO a=decide (a.toNat=45∨a.toNat=95∨a.toNat=46∨a.toNat=47):=by unfold isO; rw [decide_eq_decide]; omega
              rw [this]
            . rw [if_neg h57]
              refine ⟨m1,?_,hF.trans q2⟩
              simp only [Bool.false_eq_true,if_false]
              rw [q1]
              have:isO a=true:=by unfold isO; simp; omega
              rw [this]; rfl
    . have hhi:128 ≤ a.toNat:=by omega
      obtain ⟨h1,h2⟩:=Xtd s pre.length hl (by rw [hix]; exact hhi)
      generalize hr:(Utf8.decode ⟨⟨s⟩⟩ pre.length).1=r at h1 h2
      have hLa:isL a=false:=by unfold isL; simp; omega
      have hOa:isO a=false:=by unfold isO; simp; omega
      have hgo:nmGo (decide (pre=[])) (a :: rest)=false:=by
        cases decide (pre=[])
        . show ((isL a || isO a) && _)=_
          rw [hLa,hOa]; rfl
        . show (isL a && _)=_
          rw [hLa]; rfl
      refine ⟨_,?_,hF⟩
      rw [hgo]
      have r1:(97:Int) ≤ (r:Int):=by omega
      have r2:¬ ((r:Int) ≤ 122):=by omega
      have r3:(65:Int) ≤ (r:Int):=by omega
      have r4:¬ ((r:Int) ≤ 90):=by omega
      have r5:¬ ((r:Int) < 48):=by omega
      have r6:(57:Int) < (r:Int):=by omega
      unfold Q54 Q6h
      have cR:∀ m,TA (d + 3) Q1u [sv odd4,.int .i32 (r:Int)] m=some (I (-1),m):=fun m=>c_Rune_hi r h1 h2 d m
      have dR:decide ((r:Int) ≤ 90)=false:=decide_eq_false r4
      simp only [if_pos r1,if_neg r2,if_pos r3,dR,X1u,X0,Bool.not_false,Xd,Qp,X8,Qf,if_neg r5,Q4s,if_pos r6,e0,cR,X5]
      by_cases hp:(pre.length:Int)=0
      . rw [if_pos hp]
      . rw [if_neg hp]
        rfl
end Go.Ab.Sh

set_option maxRecDepth 100000
set_option linter.unusedSimpArgs false
set_option linter.unusedVariables false
namespace Go.Ab.Sh
open Go Go.Ab Go.Lib
theorem c_lexName (s:Str) (hs:s.length ≤ 4194304) (d:Nat) (m:Mem):TA (d + 4) Qe9 [sv s] m=some (.bool (Xy s),m):=by
  rw [Xl6]
  have e0:Value.string ⟨#[]⟩=sv []:=rfl
  rw [Xj8]
  unfold Qcz Qgl Qdx
  simp only [e0,Qcp,X0,X8,Xd,X3a,Q4s]
  by_cases h0:s=[]
  . rw [if_pos h0,decide_eq_false (by simpa using h0)]
    exact Xq rfl (.refl _ _) rfl
  . rw [if_neg h0,decide_eq_true h0,Bool.true_and]
    by_cases h1:(32:Int) < s.length
    . rw [if_pos h1,decide_eq_false (by omega)]
      exact Xq rfl (.refl _ _) rfl
    . rw [if_neg h1,decide_eq_true (by omega),Bool.true_and]
      obtain ⟨m1,q1,q2⟩:=Xag d m.next s hs m.next (Nat.le_refl _) s [] ((X4 m m.next).push (.siter ⟨⟨s⟩⟩ 0)) 18446744073709551616 rfl (by omega) (Xl (X4 m m.next) _)
      refine Xq (m1:=m1) ?_ ((Fb.push (m:=X4 m m.next) _ (Nat.le_refl _)).trans q2) rfl
      have hr:X33 (sv s) (X4 m m.next)=some (pt m.next 0 0,(X4 m m.next).push (.siter ⟨⟨s⟩⟩ 0)):=rfl
      unfold Qgk Qgj
      simp only [hr,X5]
      exact q1
theorem Xph {β:Type} (c:UInt8) (f:Bool→Option β) :
    (if (48:Int) ≤ (c.toNat:Int) then (if (c.toNat:Int) ≤ 57 then f true else if (c.toNat:Int)=45 then f true else if (c.toNat:Int)=95 then f true else if (c.toNat:Int)=46 then f true else f (decide ((c.toNat:Int)=47)))
     else if (c.toNat:Int)=45 then f true else if (c.toNat:Int)=95 then f true else if (c.toNat:Int)=46 then f true else f (decide ((c.toNat:Int)=47)))=f (isO c):=by
  have tail:¬ ((48:Int) ≤ (c.toNat:Int)∧(c.toNat:Int) ≤ 57)→(if (c.toNat:Int)=45 then f true else if (c.toNat:Int)=95 then f true else if (c.toNat:Int)=46 then f true else f (decide ((c.toNat:Int)=47)))=f (isO c):=by
    intro hn
    by_cases h1:(c.toNat:Int)=45
    . rw [if_pos h1,show isO c=true by unfold isO; simp; omega]
    rw [if_neg h1]
    by_cases h2:(c.toNat:Int)=95
    . rw [if_pos h2,show isO c=true by unfold isO; simp; omega]
    rw [if_neg h2]
    by_cases h3:(c.toNat:Int)=46
    . rw [if_pos h3,show isO c=true by unfold isO; simp; omega]
    rw [if_neg h3]
    congr 1
    unfold isO
    rw [decide_eq_decide]
    omega
  by_cases h1:(48:Int) ≤ (c.toNat:Int)
  . rw [if_pos h1]
    by_cases h2:(c.toNat:Int) ≤ 57
    . rw [if_pos h2,show isO c=true by unfold isO; simp; omega]
    . rw [if_neg h2]
      exact tail (fun h=>h2 h.2)
  . rw [if_neg h1]
    exact tail (fun h=>h1 h.1)
theorem Xab (G:Gt) (s:Str) (hs:s.length ≤ 4194304) (m:Mem):∀ (rest pre:Str) (k:Nat),s=pre ++ rest→rest.length < k →
    Qm G k (I pre.length) (sv s) m=if nmGo (decide (pre=[])) rest=true then Q6o G (sv s) m else some (.bool false,m)
  | [],pre,k,he,hk=>by
    obtain ⟨k,rfl⟩:∃ q,k=q + 1:=⟨k - 1,by omega⟩
    have hl:s.length=pre.length:=by rw [he]; simp
    have hgo:nmGo (decide (pre=[])) []=true:=by cases decide (pre=[]) <;> rfl
    unfold Qm
    simp only [X3a,X0,Qf,X8,hl,Int.lt_irrefl,if_false,hgo,if_true]
  | a :: rest,pre,k,he,hk=>by
    obtain ⟨k,rfl⟩:∃ q,k=q + 1:=⟨k - 1,by omega⟩
    have hl:s.length=pre.length + (rest.length + 1):=by rw [he]; simp
    have hlt:(pre.length:Int) < s.length:=by omega
    have hix:s[pre.length]'(by omega)=a:=by simp [he]
    have w1:IntKind.i64.wrap ((pre.length:Int) + 1)=((pre.length + 1:Nat):Int):=by rw [IntWalk.i64_in _ (by omega)]; omega
    have ih:=Xab G s hs m rest (pre ++ [a]) k (by rw [he]; simp) (by simp at hk; omega)
    have hnp:decide (pre ++ [a]=[])=false:=by simp
    rw [hnp,List.length_append,List.length_cons,List.length_nil] at ih
    unfold Qm Qaj Qai
    simp only [X3a,X0,Qf,X8,if_pos hlt,X76 s .i64 pre.length (by omega),hix,Q5u,Q7y]
    rw [Xfq a fun p5=>Q1d G (Qm G k) (.int .u8 (a.toNat:Int)) (.bool p5) (I pre.length) (sv s) m]
    unfold Q1d
    simp only [Q5u,Q7y,X0,X8,Qp]
    rw [Xph a fun p6=>Qn G (Qm G k) (.bool (isL a)) (I pre.length) (.bool p6) (sv s) m]
    unfold Qn Q4k
    simp only [X1u,X0,Xfv,Qp,X8,Qz,w1,decide_eq_true_eq]
    cases hL:isL a with
    | true =>
      simp only [Bool.not_true,Bool.false_eq_true,if_false]
      have:nmGo (decide (pre=[])) (a :: rest)=nmGo false rest:=by
        cases decide (pre=[])
        . show ((isL a || isO a) && nmGo false rest)=_
          rw [hL]; simp
        . show (isL a && nmGo false rest)=_
          rw [hL]; simp
      rw [this]
      exact ih
    | false =>
      simp only [Bool.not_false,if_true]
      by_cases hp:pre=[]
      . subst hp
        rw [if_pos (by rfl)]
        have:nmGo (decide (([]:Str)=[])) (a :: rest)=false:=by
          show (isL a && nmGo false rest)=_
          rw [hL]; rfl
        rw [this]
        rfl
      . have hp0:¬ ((pre.length:Int)=0):=by
          intro h
          exact hp (List.length_eq_zero_iff.mp (by omega))
        rw [if_neg hp0]
        have hgo:nmGo (decide (pre=[])) (a :: rest)=(isO a && nmGo false rest):=by
          rw [show decide (pre=[])=false by simpa using hp]
          show ((isL a || isO a) && nmGo false rest)=_
          rw [hL]; simp
        rw [hgo]
        cases hO:isO a with
        | true =>
          simp only [Bool.not_true,Bool.false_eq_true,if_false,Bool.true_and]
          exact ih
        | false =>
          simp only [Bool.not_false,if_true,Bool.false_and,Bool.false_eq_true,if_false]
theorem c_refName (s:Str) (hs:s.length ≤ 4194304) (d:Nat) (m:Mem):TA (d + 1) Q13 [sv s] m=some (.bool (Xy s),m):=by
  rw [X7u]
  refine Xq (m1:=X4 m m.next) ?_ (.refl _ _) rfl
  have:=Xab ⟨TA d,18446744073709551616⟩ s hs (X4 m m.next) s [] 18446744073709551616 rfl (by omega)
  unfold Q3v Qal Qak
  refine Eq.trans this ?_
  rw [Xj8]
  have hd:decide (([]:Str)=[])=true:=rfl
  rw [hd]
  cases nmGo true s with
  | false=>simp
  | true =>
    unfold Q6o Q6n
    simp only [if_true,X3a,X0,Q5u,Q7y,X8,Bool.and_true]
    by_cases h0:s=[]
    . subst h0
      rw [if_neg (by simp)]
      rfl
    . have:1 ≤ s.length:=by
        cases s with
        | nil=>exact absurd rfl h0
        | cons=>simp
      rw [if_pos (by omega),decide_eq_true h0,Bool.true_and]
      congr 3
      rw [decide_eq_decide]
      omega
end Go.Ab.Sh

set_option maxRecDepth 100000
set_option linter.unusedSimpArgs false
set_option linter.unusedVariables false
namespace Go.Ab
open Go Go.Lib
def X61:Str:=[32,114,101,97,99,104,32,97,108,119,97,121,115,32,108,111,111,112,32,116,114,97,99,101,32,114,111,117,116,101,115,32,107,110,111,119,115,32,111,119,110,101,114,32]
def Xb3:Str:=[32,97,99,99,101,112,116,101,100,32,100,101,110,105,101,100,45,105,110,32,100,101,110,105,101,100,45,111,117,116,32,110,111,45,114,111,117,116,101,32,110,111,119,104,101,114,101,32,100,101,108,105,118,101,114,101,100,32,108,111,115,116,32]
def kindsL:List Str:=[[114,101,97,99,104],[97,108,119,97,121,115],[108,111,111,112],[116,114,97,99,101],[114,111,117,116,101,115],[107,110,111,119,115],[111,119,110,101,114]]
def endsL:List Str:=[[97,99,99,101,112,116,101,100],[100,101,110,105,101,100,45,105,110],[100,101,110,105,101,100,45,111,117,116],[110,111,45,114,111,117,116,101],[110,111,119,104,101,114,101],[100,101,108,105,118,101,114,101,100],[108,111,115,116]]
def posG (i:Nat):List Str→Str→Nat
  | [],_=>0
  | w :: ws,s=>if s=w then i + 1 else posG (i + 1) ws s
abbrev headsV:Value:=.agg ⟨[.bool true,I (-1),.int .u32 0,I 0,.int .u32 0,I 0,.int .u32 0,.int .u32 65535,.int .u32 0,.int .u32 65535]⟩
def X1v (s:Str):Option (Nat × Nat):=match cut 45 s with
  | none=>none
  | some (a,b)=>match num 65535 a,num 65535 b with
    | some lo,some hi=>if lo ≤ hi∧hi - lo < 65535 then some (lo,hi) else none
    | _,_=>none
def X15 (s:Str):Option (Nat × Nat):=match cut 45 s with
  | none=>none
  | some (a,b)=>match num 65535 a,num 65535 b with
    | some lo,some hi=>if lo ≤ hi then some (lo,hi) else none
    | _,_=>none
abbrev Xz (lo hi:Int):Value:=.agg ⟨[.int .u32 lo,.int .u32 hi]⟩
def Xu (lo hi:Nat):Str:=decDigits lo ++ [45] ++ decDigits hi
end Go.Ab
namespace Go.Ab.Sh
open Go Go.Ab Go.Lib
theorem c_Fields (s:Str) (h:(Nat.blt (⟨⟨s⟩⟩:ByteArray).size 4294967281 && X78 s)=true) (ws:List Str) (hw:X1w s=ws.map sv) (d:Nat) (m:Mem) :
    TA d Q5k [sv s] m=some (.slice (some ⟨m.next,0,some 1⟩) ws.length 1,m.push (.cells (ws.map sv) 0 0 false none)):=by
  refine Xgy (o:=Qj2) (by kernel_rfl) ?_ d
  show (if Q5k=Q5k then (match Nat.blt (⟨⟨s⟩⟩:ByteArray).size 4294967281 && X78 s with
      | true=>some (Value.slice (some ⟨m.next,0,some 1⟩) (X1w s).length 1,m.push (.cells (X1w s) 0 0 false none))
      | false=>none) else none)=_
  rw [if_pos rfl,h,hw,List.length_map]
theorem fK:X1w X61=kindsL.map sv:=by kernel_rfl
theorem fE:X1w Xb3=endsL.map sv:=by kernel_rfl
theorem aK:(Nat.blt (⟨⟨X61⟩⟩:ByteArray).size 4294967281 && X78 X61)=true:=by kernel_rfl
theorem aE:(Nat.blt (⟨⟨Xb3⟩⟩:ByteArray).size 4294967281 && X78 Xb3)=true:=by kernel_rfl
theorem Xel (m:Mem) (ws:List Str) (ty:Option Nat):SL (m.push (.cells (ws.map sv) 0 0 false ty)) (.slice (some ⟨m.next,0,some 1⟩) ws.length 1) ws:=
  ⟨m.next,0,1,ws.map sv,0,false,ty,rfl,by show m.next < m.next + 1; omega,Xl m _,by simp,fun i w hw=>by rw [Nat.zero_add,List.getElem?_map,hw]; rfl⟩
theorem Xcs (G:Gt) (v:Value) (m:Mem) (ws:List Str) (hl:ws.length ≤ 1000) (hS:SL m v ws) (s:Str):∀ (rest pre:List Str) (k:Nat),ws=pre ++ rest→rest.length < k →
    Qw G k (I pre.length) (I ws.length) (sv s) v m=some (I ((posG pre.length rest s:Nat) - 1),m)
  | [],pre,k,he,hk=>by
    obtain ⟨k,rfl⟩:∃ q,k=q + 1:=⟨k - 1,by omega⟩
    have h:ws.length=pre.length:=by rw [he]; simp
    unfold Qw Q43
    simp only [Qf,X0,X8,h,Int.lt_irrefl,if_false]
    rfl
  | w :: rest,pre,k,he,hk=>by
    obtain ⟨k,rfl⟩:∃ q,k=q + 1:=⟨k - 1,by omega⟩
    have h:ws.length=pre.length + (rest.length + 1):=by rw [he]; simp
    obtain ⟨p,l1,l2⟩:=hS.at (i:=pre.length) (w:=w) (by rw [he]; simp)
    have w1:IntKind.i64.wrap ((pre.length:Int) + 1)=((pre.length + 1:Nat):Int):=by rw [IntWalk.i64_in _ (by omega)]; omega
    unfold Qw posG
    simp only [Qf,X0,X8,if_pos (by omega:(pre.length:Int) < (ws.length:Int)),l1,l2,Qcp]
    by_cases hc:s=w
    . rw [if_pos hc,if_pos hc]
      congr 3
      omega
    . rw [if_neg hc,if_neg hc]
      simp only [Qz,w1,X0]
      have:=Xcs G v m ws hl hS s rest (pre ++ [w]) k (by rw [he]; simp) (by simp at hk; omega)
      rw [List.length_append,List.length_cons,List.length_nil] at this
      exact this
theorem X4d:∀ (ws:List Str) (i:Nat) (s:Str),posG i ws s ≤ i + ws.length
  | [],i,s=>Nat.zero_le _
  | w :: ws,i,s=>by
    unfold posG
    split
    . simp
    . have:=X4d ws (i + 1) s
      simp; omega
theorem Xgc (all:Str) (ws:List Str) (ha:(Nat.blt (⟨⟨all⟩⟩:ByteArray).size 4294967281 && X78 all)=true) (hf:X1w all=ws.map sv) (hl:ws.length ≤ 1000) (s:Str) (d:Nat) (m:Mem) :
    TA (d + 2) Q3y [sv all,sv s] m=some (I (posG 0 ws s:Nat),m):=by
  rw [Xhf]
  refine Xq (m1:=(X4 m m.next).push (.cells (ws.map sv) 0 0 false none)) ?_ (Fb.push _ (Nat.le_refl _)) rfl
  have hI:∀ m v,SL m v ws→TA (d + 1) Q2d [v,sv s] m=some (I ((posG 0 ws s:Nat) - 1),m):=by
    intro m v hS
    rw [X2q]
    refine Xq (m1:=X4 m m.next) ?_ (.refl _ _) rfl
    obtain ⟨bs,hb1,hb2,_⟩:=hS.block
    have hS':SL (X4 m m.next) v ws:=hb2 _ (Nat.le_refl _) rfl
    unfold Q11 Q44 Q45
    simp only [hS'.len,X0]
    exact Xcs ⟨TA d,18446744073709551616⟩ v (X4 m m.next) ws hl hS' s ws [] 18446744073709551616 rfl (by omega)
  have hp:=X4d ws 0 s
  have w1:IntKind.i64.wrap ((((posG 0 ws s:Nat):Int) - 1) + 1)=((posG 0 ws s:Nat):Int):=by rw [IntWalk.i64_in _ (by omega)]; omega
  unfold Qbt
  simp only [c_Fields all ha ws hf,X5,hI _ _ (Xel (X4 m m.next) ws none),Qz,w1,X0]
theorem c_placeK (s:Str) (d:Nat) (m:Mem):TA (d + 2) Q3y [sv X61,sv s] m=some (I (posG 0 kindsL s:Nat),m):=Xgc X61 kindsL aK fK (by decide) s d m
theorem c_placeE (s:Str) (d:Nat) (m:Mem):TA (d + 2) Q3y [sv Xb3,sv s] m=some (I (posG 0 endsL s:Nat),m):=Xgc Xb3 endsL aE fE (by decide) s d m
theorem at_loop (G:Gt) (v:Value) (m:Mem) (ws:List Str) (hl:ws.length ≤ 200) (hS:SL m v ws) (s:Str):∀ (rest pre:List Str) (k:Nat),ws=pre ++ rest→rest.length < k →
    Q3x G k (I pre.length) v (sv s) m=some (.int .u8 (posG pre.length rest s:Nat),m)
  | [],pre,k,he,hk=>by
    obtain ⟨k,rfl⟩:∃ q,k=q + 1:=⟨k - 1,by omega⟩
    have h:ws.length=pre.length:=by rw [he]; simp
    unfold Q3x Qc6
    simp only [hS.len,Qf,X0,X8,h,Int.lt_irrefl,if_false]
    rfl
  | w :: rest,pre,k,he,hk=>by
    obtain ⟨k,rfl⟩:∃ q,k=q + 1:=⟨k - 1,by omega⟩
    have h:ws.length=pre.length + (rest.length + 1):=by rw [he]; simp
    obtain ⟨p,l1,l2⟩:=hS.at (i:=pre.length) (w:=w) (by rw [he]; simp)
    have w1:IntKind.i64.wrap ((pre.length:Int) + 1)=((pre.length + 1:Nat):Int):=by rw [IntWalk.i64_in _ (by omega)]; omega
    have w2:IntKind.u8.wrap ((pre.length + 1:Nat):Int)=((pre.length + 1:Nat):Int):=by rw [IntWalk.u8_in _ (by omega)]
    unfold Q3x posG
    simp only [hS.len,Qf,X0,X8,if_pos (by omega:(pre.length:Int) < (ws.length:Int)),l1,l2,Qcp]
    by_cases hc:s=w
    . rw [if_pos hc.symm,if_pos hc]
      simp only [Qz,w1,X0,c_int,w2,X5]
    . rw [if_neg (fun h=>hc h.symm),if_neg hc]
      simp only [Qz,w1,X0]
      have:=at_loop G v m ws hl hS s rest (pre ++ [w]) k (by rw [he]; simp) (by simp at hk; omega)
      rw [List.length_append,List.length_cons,List.length_nil] at this
      exact this
theorem c_at (v:Value) (m:Mem) (ws:List Str) (hl:ws.length ≤ 200) (hS:SL m v ws) (s:Str) (d:Nat):TA (d + 1) Q3o [v,sv s] m=some (.int .u8 (posG 0 ws s:Nat),m):=by
  rw [X97]
  refine Xq (m1:=X4 m m.next) ?_ (.refl _ _) rfl
  obtain ⟨bs,hb1,hb2,_⟩:=hS.block
  have hS':SL (X4 m m.next) v ws:=hb2 _ (Nat.le_refl _) rfl
  unfold Q5a Qc8 Qc7
  exact at_loop ⟨TA d,18446744073709551616⟩ v (X4 m m.next) ws hl hS' s ws [] 18446744073709551616 rfl (by omega)
theorem Xcy (n:Nat):Nat.blt n n=false:=by
  cases h:Nat.blt n n with
  | false=>rfl
  | true=>have:=Nat.blt_eq.mp h; omega
theorem c_Kinds (d:Nat) (m:Mem):∃ v m1,TA (d + 1) Q1m [] m=some (v,m1)∧Fr [] m m1∧SL m1 v kindsL:=by
  rw [X6n]
  have hx:Q36 ⟨TA d,18446744073709551616⟩ (X4 m m.next)=some (.slice (some ⟨m.next,0,some 1⟩) 7 1,(X4 m m.next).push (.cells (kindsL.map sv) 0 0 false (some (2 * Q4)))):=Eq.trans rfl rfl
  obtain ⟨m2,q1,q2,q3,q4⟩:=Xba (m:=m) hx (Fr.push _) (Xcy m.next)
  exact ⟨_,m2,q1,q2,SL.same (Xel (X4 m m.next) kindsL (some (2 * Q4))) (by omega) q4⟩
theorem c_Endings (d:Nat) (m:Mem):∃ v m1,TA (d + 1) Q1n [] m=some (v,m1)∧Fr [] m m1∧SL m1 v endsL:=by
  rw [X5i]
  have hx:Q2g ⟨TA d,18446744073709551616⟩ (X4 m m.next)=some (.slice (some ⟨m.next,0,some 1⟩) 7 1,(X4 m m.next).push (.cells (endsL.map sv) 0 0 false (some (2 * Q4)))):=Eq.trans rfl rfl
  obtain ⟨m2,q1,q2,q3,q4⟩:=Xba (m:=m) hx (Fr.push _) (Xcy m.next)
  exact ⟨_,m2,q1,q2,SL.same (Xel (X4 m m.next) endsL (some (2 * Q4))) (by omega) q4⟩
theorem Xuz:Xn Qc [(0,1),(1,1)] [(1,.int .u32 65535)]=some (Xz 0 65535):=Eq.trans rfl rfl
theorem Xvi:Xn Qc [(0,1),(1,1)] []=some (Xz 0 0):=Eq.trans rfl rfl
theorem aBsp (a b:Int):Xn Qc [(0,1),(1,1)] [(0,.int .u32 a),(1,.int .u32 b)]=some (Xz a b):=Eq.trans rfl rfl
theorem Xrs:Xn Q61 [(0,1),(1,1),(2,2),(4,2),(6,2),(8,2)] [(0,.bool true),(1,.int .i64 (-1)),(4,Xz 0 65535),(5,Xz 0 65535)]=some headsV:=Eq.trans rfl rfl
theorem c_heads (d:Nat) (m:Mem):TA (d + 1) Qdc [] m=some (headsV,m):=by
  rw [Xhx]
  let m0:=(X4 m m.next).push (.cells Q61 0 0 false (some (2 * Q78 + 1)))
  have g0:m0.get m.next=some (.cells Q61 0 0 false (some (2 * Q78 + 1))):=Xl (X4 m m.next) _
  obtain ⟨mE,r1,r2,_⟩:=X14 (n:=10) (tail:=[]) g0 rfl (vs:=headsV.cells.toList) rfl rfl (Nat.le_refl m.next)
  refine Xq (m1:=mE) ?_ ((Fb.push (m:=X4 m m.next) _ (Nat.le_refl _)).trans r2) rfl
  unfold Qbs
  rw [Xh]
  simp only [Xuz,Xrs,X0]
  exact r1
end Go.Ab.Sh

set_option maxRecDepth 100000
set_option linter.unusedSimpArgs false
set_option linter.unusedVariables false
namespace Go.Ab.Sh
open Go Go.Ab Go.Lib
def numV (o:Option Nat):Nat:=o.getD 0
theorem c_lexNumber' (s:Str) (hs:s.length ≤ 4194304) (most:Nat) (hm:most < 1000000000000) (d:Nat) (m:Mem) :
    TA (d + 1) Q1k [sv s,I most] m=some (.tuple ⟨[I (numV (num most s)),.bool (num most s).isSome]⟩,m):=by
  rw [c_lexNumber s hs most hm]
  cases num most s <;> rfl
theorem Xol {most:Nat} (s:Str):numV (num most s) ≤ most:=by
  cases h:num most s with
  | none=>exact Nat.zero_le _
  | some n=>exact (num_some.mp h).2
theorem c_ports (s:Str) (hs:s.length ≤ 4194304) (d:Nat) (m:Mem):∃ lo hi:Int,TA (d + 3) Q5t [sv s] m=some (.tuple ⟨[Xz lo hi,.bool (X1v s).isSome]⟩,m)∧∀ a b,X1v s=some (a,b)→lo=a∧hi=b:=by
  have hcl:=Xjb 45 s
  let x:=(cutO 45 s).1
  let y:=(cutO 45 s).2.1
  let lo:=numV (num 65535 x)
  let hi:=numV (num 65535 y)
  have l1:lo ≤ 65535:=Xol x
  have l2:hi ≤ 65535:=Xol y
  have hP:X1v s=if (cutO 45 s).2.2=true∧(num 65535 x).isSome=true∧(num 65535 y).isSome=true∧lo ≤ hi∧hi - lo < 65535 then some (lo,hi) else none:=by
    show X1v s=if (cutO 45 s).2.2=true∧(num 65535 (cutO 45 s).1).isSome=true∧(num 65535 (cutO 45 s).2.1).isSome=true∧numV (num 65535 (cutO 45 s).1) ≤ numV (num 65535 (cutO 45 s).2.1)∧numV (num 65535 (cutO 45 s).2.1) - numV (num 65535 (cutO 45 s).1) < 65535 then some (numV (num 65535 (cutO 45 s).1),numV (num 65535 (cutO 45 s).2.1)) else none
    unfold X1v cutO
    cases cut 45 s with
    | none=>simp
    | some p =>
      obtain ⟨a,b⟩:=p
      simp only
      cases num 65535 a with
      | none=>simp
      | some u=>cases num 65535 b with
        | none=>simp
        | some w=>simp [numV]
  refine ⟨lo,hi,?_,?_⟩
  . rw [Xi9]
    let m0:=(X4 m m.next).push (.cells Qc 0 0 false (some (2 * Qe + 1)))
    have g0:m0.get m.next=some (.cells Qc 0 0 false (some (2 * Qe + 1))):=Xl (X4 m m.next) _
    have F0:Fb m.next (X4 m m.next) m0:=Fb.push _ (Nat.le_refl _)
    have ret:∀ (c:Bool),∃ m1,(bp (unt (X7 2 (pt m.next 0 0) (Xz lo hi) m0)) fun _ m_1=>Q6z ⟨TA (d + 2),18446744073709551616⟩ (pt m.next 0 0) (.bool c) m_1)=some (.tuple ⟨[Xz lo hi,.bool c]⟩,m1)∧Fb m.next m0 m1:=by
      intro c
      obtain ⟨mE,r1,r2,_⟩:=X14 (n:=2) (tail:=[.bool c]) g0 rfl (vs:=(Xz lo hi).cells.toList) rfl rfl (Nat.le_refl m.next)
      exact ⟨mE,r1,r2⟩
    have hcut:TA (d + 2) Q2z [sv s,.string ⟨#[45]⟩] m0=_:=c_CutO s hs 45 d m0
    have n1:TA (d + 2) Q1k [sv x,.int .i64 65535] m0=_:=c_lexNumber' x (by have:=hcl.1; show (cutO 45 s).1.length ≤ _; omega) 65535 (by omega) (d + 1) m0
    have n2:TA (d + 2) Q1k [sv y,.int .i64 65535] m0=_:=c_lexNumber' y (by have:=hcl.2; show (cutO 45 s).2.1.length ≤ _; omega) 65535 (by omega) (d + 1) m0
    have wl:IntKind.u32.wrap (lo:Int)=lo:=by rw [IntWalk.u32_in _ (by omega)]
    have wh:IntKind.u32.wrap (hi:Int)=hi:=by rw [IntWalk.u32_in _ (by omega)]
    have w4:IntKind.i64.wrap ((hi:Int) - lo)=(hi:Int) - lo:=by rw [IntWalk.i64_in _ (by omega)]
    have aB:=aBsp lo hi
    have go:∃ m1,Qdv ⟨TA (d + 2),18446744073709551616⟩ (sv s) (pt m.next 0 0) m0=some (.tuple ⟨[Xz lo hi,.bool (X1v s).isSome]⟩,m1)∧Fb m.next m0 m1:=by
      unfold Qdv Qfx Qfw Qfv
      have n1':TA (d + 2) Q1k [sv (cutO 45 s).1,.int .i64 65535] m0=some (.tuple ⟨[I lo,.bool (num 65535 x).isSome]⟩,m0):=n1
      have n2':TA (d + 2) Q1k [sv (cutO 45 s).2.1,.int .i64 65535] m0=some (.tuple ⟨[I hi,.bool (num 65535 y).isSome]⟩,m0):=n2
      simp only [hcut,X5,ex0,ex1,ex2,X0,n1',n2',c_int,wl,wh,aB,Xfv,Q7y,X8,Q9t,w4,Qf,decide_eq_true_eq]
      cases hc:(cutO 45 s).2.2 with
      | false =>
        have hE:X1v s=none:=by rw [hP,if_neg (by rw [hc]; simp)]
        rw [hE]
        simp only [Bool.false_eq_true,if_false]
        exact ret false
      | true =>
        simp only [if_true]
        cases h1:(num 65535 x).isSome with
        | false =>
          have hE:X1v s=none:=by rw [hP,if_neg (by rw [h1]; simp)]
          rw [hE]
          simp only [Bool.false_eq_true,if_false]
          exact ret false
        | true =>
          simp only [if_true]
          cases h2:(num 65535 y).isSome with
          | false =>
            have hE:X1v s=none:=by rw [hP,if_neg (by rw [h2]; simp)]
            rw [hE]
            simp only [Bool.false_eq_true,if_false]
            exact ret false
          | true =>
            simp only [if_true]
            by_cases h3:(lo:Int) ≤ hi
            . rw [if_pos h3]
              have hE:(X1v s).isSome=decide ((hi:Int) - lo < 65535):=by
                rw [hP]
                by_cases h4:hi - lo < 65535
                . rw [if_pos ⟨hc,h1,h2,by omega,h4⟩,decide_eq_true (by omega)]; rfl
                . rw [if_neg (fun h=>h4 h.2.2.2.2),decide_eq_false (by omega)]; rfl
              rw [hE]
              exact ret _
            . rw [if_neg h3]
              have hE:X1v s=none:=by rw [hP,if_neg (fun h=>h3 (by have:=h.2.2.2.1; omega))]
              rw [hE]
              exact ret false
    obtain ⟨m1,k1,k2⟩:=go
    refine Xq (m1:=m1) ?_ (F0.trans k2) rfl
    unfold Qbu
    rw [Xh]
    exact k1
  . intro a b h
    rw [hP] at h
    split at h
    . cases h; exact ⟨rfl,rfl⟩
    . cases h
def optZ (o:Option Nat):Int:=match o with | some n=>(n:Int) | none=>-1
theorem Xu0 (o:Option Nat):optI o=I (optZ o):=by cases o <;> rfl
theorem max0 (z:Int):aMax (I z) (.int .i64 0)=some (I (if z < 0 then 0 else z)):=by
  show some (Value.int .i64 _)=_
  congr 2
theorem X8u (d:Nat) (s:Str) (hs:s.length ≤ 4194304) (b B:Nat) (hB:B ≤ b) (m:Mem) (g0:m.get b=some (.cells Qc 0 0 false (some (2 * Qe + 1)))):∀ (rest pre:Str) (k:Nat),s=pre ++ rest→45 ∉ pre→rest.length < k →
    ∃ (lo hi:Int) (m1:Mem),Q18 ⟨TA (d + 1),18446744073709551616⟩ k (I pre.length) (sv s) (pt b 0 0) m=some (.tuple ⟨[Xz lo hi,.bool (X15 s).isSome]⟩,m1)∧Fb B m m1∧∀ x y,X15 s=some (x,y)→lo=x∧hi=y
  | [],pre,k,he,hp,hk=>by
    obtain ⟨k,rfl⟩:∃ j,k=j + 1:=⟨k - 1,by omega⟩
    have hl:s.length=pre.length:=by rw [he]; simp
    have hc:cut 45 s=none:=by rw [he,List.append_nil]; exact Xcd hp
    have hE:X15 s=none:=by unfold X15; rw [hc]
    obtain ⟨mE,r1,r2,_⟩:=X14 (n:=2) (tail:=[.bool false]) g0 rfl (vs:=(Xz 0 0).cells.toList) rfl rfl hB
    refine ⟨0,0,mE,?_,r2,fun x y h=>by rw [hE] at h; cases h⟩
    rw [hE]
    unfold Q18 Q9b
    simp only [X3a,X0,Qf,X8,hl,Int.lt_irrefl,if_false,Xvi]
    exact r1
  | a :: rest,pre,k,he,hp,hk=>by
    obtain ⟨k,rfl⟩:∃ j,k=j + 1:=⟨k - 1,by omega⟩
    have hl:s.length=pre.length + (rest.length + 1):=by rw [he]; simp
    have hlt:(pre.length:Int) < s.length:=by omega
    have hix:s[pre.length]'(by omega)=a:=by simp [he]
    have w1:IntKind.i64.wrap ((pre.length:Int) + 1)=((pre.length + 1:Nat):Int):=by rw [IntWalk.i64_in _ (by omega)]; omega
    unfold Q18 Q9c Q9d Q9e Q9f
    simp only [X3a,X0,Qf,X8,if_pos hlt,X76 s .i64 pre.length (by omega),hix,Qp]
    by_cases hc:a=45
    . subst hc
      have e47:(((45:UInt8).toNat:Int)=45):=rfl
      have hcut:cut 45 s=some (pre,rest):=by rw [he]; exact X3r rest hp
      obtain ⟨q1,q2,q3⟩:=X8n hcut
      have h1:TA (d + 1) Q6 [sv pre,.int .i64 65535] m=_:=c_Read pre (by omega) 65535 (by omega) d m
      have h2:TA (d + 1) Q6 [sv rest,.int .i64 65535] m=_:=c_Read rest (by omega) 65535 (by omega) d m
      have ret:∀ (lo hi:Int) (c:Bool),∃ m1,(bp (unt (X7 2 (pt b 0 0) (Xz lo hi) m)) fun _ m_1=>Q66 ⟨TA (d + 1),18446744073709551616⟩ (pt b 0 0) (.bool c) m_1)=some (.tuple ⟨[Xz lo hi,.bool c]⟩,m1)∧Fb B m m1:=by
        intro lo hi c
        obtain ⟨mE,r1,r2,_⟩:=X14 (n:=2) (tail:=[.bool c]) g0 rfl (vs:=(Xz lo hi).cells.toList) rfl rfl hB
        exact ⟨mE,r1,r2⟩
      rw [if_pos e47]
      simp only [X8e s pre.length (by omega),q1,X0,h1,X5,Qz,w1,X3e s (pre.length + 1) q3,q2,h2]
      cases hn:num 65535 pre with
      | none =>
        have hE:X15 s=none:=by unfold X15; simp only [hcut,hn]
        obtain ⟨m1,k1,k2⟩:=ret (IntKind.u32.wrap 0) (IntKind.u32.wrap (if optZ (num 65535 rest) < 0 then 0 else (optZ (num 65535 rest)))) false
        refine ⟨IntKind.u32.wrap 0,IntKind.u32.wrap (if optZ (num 65535 rest) < 0 then 0 else optZ (num 65535 rest)),m1,?_,k2,fun x y h=>by rw [hE] at h; cases h⟩
        rw [hE]
        have e1:optI none=I (-1):=rfl
        have e2:=Xu0 (num 65535 rest)
        have aB:=aBsp (IntKind.u32.wrap 0) (IntKind.u32.wrap (if optZ (num 65535 rest) < 0 then 0 else (optZ (num 65535 rest))))
        have m0:=max0 (-1)
        rw [if_pos (by omega)] at m0
        rw [e1,e2]
        simp only [m0,max0,X0,c_int,X5,aB,Q5u,X8]
        rw [if_neg (by omega)]
        exact k1
      | some lo =>
        have hlo:=(num_some.mp hn).2
        cases hn2:num 65535 rest with
        | none =>
          have hE:X15 s=none:=by unfold X15; simp only [hcut,hn,hn2]
          obtain ⟨m1,k1,k2⟩:=ret lo (IntKind.u32.wrap 0) (decide ((lo:Int) ≤ -1))
          have hd:decide ((lo:Int) ≤ -1)=false:=decide_eq_false (by omega)
          refine ⟨lo,IntKind.u32.wrap 0,m1,?_,k2,fun x y h=>by rw [hE] at h; cases h⟩
          rw [hE]
          have e1:optI none=I (-1):=rfl
          have e2:optI (some lo)=I lo:=rfl
          have m0:=max0 (-1)
          rw [if_pos (by omega)] at m0
          have m2:=max0 lo
          rw [if_neg (by omega)] at m2
          have wl:IntKind.u32.wrap (lo:Int)=lo:=by rw [IntWalk.u32_in _ (by omega)]
          have aB:=aBsp lo (IntKind.u32.wrap 0)
          rw [e1,e2]
          simp only [m0,m2,X0,c_int,wl,X5,aB,Q5u,X8]
          rw [if_pos (by omega),k1,hd]
          rfl
        | some hi =>
          have hhi:=(num_some.mp hn2).2
          have e1:optI (some hi)=I hi:=rfl
          have e2:optI (some lo)=I lo:=rfl
          have m0:=max0 hi
          rw [if_neg (by omega)] at m0
          have m2:=max0 lo
          rw [if_neg (by omega)] at m2
          have wl:IntKind.u32.wrap (lo:Int)=lo:=by rw [IntWalk.u32_in _ (by omega)]
          have wh:IntKind.u32.wrap (hi:Int)=hi:=by rw [IntWalk.u32_in _ (by omega)]
          have aB:=aBsp lo hi
          obtain ⟨m1,k1,k2⟩:=ret lo hi (decide ((lo:Int) ≤ hi))
          have hE:X15 s=if lo ≤ hi then some (lo,hi) else none:=by unfold X15; simp only [hcut,hn,hn2]
          refine ⟨lo,hi,m1,?_,k2,fun x y h=>?_⟩
          . rw [e1,e2]
            simp only [m0,m2,X0,c_int,wl,wh,X5,aB,Q5u,X8]
            rw [if_pos (by omega),k1,hE]
            by_cases h:lo ≤ hi
            . rw [if_pos h,decide_eq_true (by omega)]; rfl
            . rw [if_neg h,decide_eq_false (by omega)]; rfl
          . rw [hE] at h
            split at h
            . cases h; exact ⟨rfl,rfl⟩
            . cases h
    . have hne:¬ ((a.toNat:Int)=45):=fun h=>hc ((Xk1 a 45 (by omega)).mp h)
      rw [if_neg hne]
      simp only [Qz,w1,X0]
      obtain ⟨lo,hi,m1,q1,q2⟩:=X8u d s hs b B hB m g0 rest (pre ++ [a]) k (by rw [he]; simp) (by simp only [List.mem_append,List.mem_cons,List.not_mem_nil,or_false,not_or]; exact ⟨hp,fun e=>hc e.symm⟩) (by simp at hk; omega)
      rw [List.length_append,List.length_cons,List.length_nil] at q1
      exact ⟨lo,hi,m1,q1,q2⟩
theorem c_refPorts (s:Str) (hs:s.length ≤ 4194304) (d:Nat) (m:Mem):∃ lo hi:Int,TA (d + 2) Q3b [sv s] m=some (.tuple ⟨[Xz lo hi,.bool (X15 s).isSome]⟩,m)∧∀ a b,X15 s=some (a,b)→lo=a∧hi=b:=by
  rw [X6s]
  obtain ⟨lo,hi,m1,k1,k2,k3⟩:=X8u d s hs m.next m.next (Nat.le_refl _) ((X4 m m.next).push (.cells Qc 0 0 false (some (2 * Qe + 1)))) (Xl (X4 m m.next) _) s [] 18446744073709551616 rfl (by simp) (by omega)
  refine ⟨lo,hi,Xq (m1:=m1) ?_ ((Fb.push (m:=X4 m m.next) _ (Nat.le_refl _)).trans k2) rfl,k3⟩
  unfold Q3a Q9g Q9h
  rw [Xh]
  exact k1
theorem Xcp (lo hi:Int):(Xz lo hi).cells.toList=[.int .u32 lo,.int .u32 hi]:=rfl
theorem c_span (lo hi:Nat) (h1:lo < 4294967296) (h2:hi < 4294967296) (d:Nat) (m:Mem):TA (d + 3) Q2l [Xz lo hi] m=some (sv (Xu lo hi),m):=by
  rw [X82]
  refine Xq (m1:=(X4 m m.next).push (.cells [.int .u32 (lo:Int),.int .u32 (hi:Int)] 0 0 false (some (2 * Qe + 1)))) ?_ (Fb.push _ (Nat.le_refl _)) rfl
  have l0:=X10 (m:=X4 m m.next) (cs:=[.int .u32 (lo:Int),.int .u32 (hi:Int)]) (ty:=some (2 * Qe + 1)) (o:=0 + 0) rfl
  have l1:=X10 (m:=X4 m m.next) (cs:=[.int .u32 (lo:Int),.int .u32 (hi:Int)]) (ty:=some (2 * Qe + 1)) (o:=0 + 1) rfl
  have e0:Value.string ⟨#[45]⟩=sv [45]:=rfl
  have q1:=X1l lo (by omega)
  have q2:=X1l hi (by omega)
  have c1:∀ m,TA (d + 2) Q1 [I lo] m=some (sv (decDigits lo),m):=fun m=>c_NumberN lo (by omega) d m
  have c2:∀ m,TA (d + 2) Q1 [I hi] m=some (sv (decDigits hi),m):=fun m=>c_NumberN hi (by omega) d m
  unfold Q3w Xu
  rw [Xcp,Xh]
  simp only [Xg,X0,l0,l1,c_int,IntWalk.i64_in (lo:Int) (by omega),IntWalk.i64_in (hi:Int) (by omega),X5,c1,c2,X1s,Bool.and_true,X18,e0,Qg _ _ (decDigits lo) [45] (by simp; omega),Qg _ _ (decDigits lo ++ [45]) (decDigits hi) (by simp; omega)]
theorem c_spanA (lo hi:Nat) (h1:lo < 4294967296) (h2:hi < 4294967296) (d:Nat) (m:Mem):TA (d + 1) Q6f [Xz lo hi] m=some (sv (Xu lo hi),m):=by
  rw [Xg5]
  refine Xq (m1:=(X4 m m.next).push (.cells [.int .u32 (lo:Int),.int .u32 (hi:Int)] 0 0 false (some (2 * Qe + 1)))) ?_ (Fb.push _ (Nat.le_refl _)) rfl
  have l0:=X10 (m:=X4 m m.next) (cs:=[.int .u32 (lo:Int),.int .u32 (hi:Int)]) (ty:=some (2 * Qe + 1)) (o:=0 + 0) rfl
  have l1:=X10 (m:=X4 m m.next) (cs:=[.int .u32 (lo:Int),.int .u32 (hi:Int)]) (ty:=some (2 * Qe + 1)) (o:=0 + 1) rfl
  have e0:Value.string ⟨#[45]⟩=sv [45]:=rfl
  have q1:=X1l lo (by omega)
  have q2:=X1l hi (by omega)
  have c1:∀ m,TA d Qi [I lo] m=some (sv (decDigits lo),m):=fun m=>c_ItoaN lo (by omega) d m
  have c2:∀ m,TA d Qi [I hi] m=some (sv (decDigits hi),m):=fun m=>c_ItoaN hi (by omega) d m
  unfold Qa3 Xu
  rw [Xcp,Xh]
  simp only [Xg,X0,l0,l1,c_int,IntWalk.i64_in (lo:Int) (by omega),IntWalk.i64_in (hi:Int) (by omega),X5,c1,c2,X1s,Bool.and_true,X18,e0,Qg _ _ (decDigits lo) [45] (by simp; omega),Qg _ _ (decDigits lo ++ [45]) (decDigits hi) (by simp; omega)]
end Go.Ab.Sh

set_option maxRecDepth 100000
set_option linter.unusedSimpArgs false
set_option linter.unusedVariables false
namespace Go.Ab
open Go Go.Lib Go.Ab.Sh
structure Rl where
  permit:Bool
  proto:Int
  sa:Nat
  sb:Int
  da:Nat
  db:Int
  sl:Nat
  sh:Nat
  dl:Nat
  dh:Nat
def rlC (r:Rl):List Value:=[.bool r.permit,I r.proto,.int .u32 (r.sa:Int),I r.sb,.int .u32 (r.da:Int),I r.db,.int .u32 (r.sl:Int),.int .u32 (r.sh:Int),.int .u32 (r.dl:Int),.int .u32 (r.dh:Int)]
abbrev rlV (r:Rl):Value:=.agg ⟨rlC r⟩
structure RlOk (r:Rl):Prop where
  proto:X5j r.proto=true
  sa:r.sa < 4294967296
  sb:X5j r.sb=true
  da:r.da < 4294967296
  db:X5j r.db=true
  sl:r.sl < 4294967296
  sh:r.sh < 4294967296
  dl:r.dl < 4294967296
  dh:r.dh < 4294967296
structure QN where
  kind:Nat
  dev:Str
  ifc:Str
  vrf:Str
  en:Nat
  r:Rl
  a:Nat
  b:Nat
  p:Nat
  m:Nat
  n:Nat
  hops:Int
  ad:Nat
def qC (q:QN):List Value:=[.int .u8 (q.kind:Int),sv q.dev,sv q.ifc,sv q.vrf,.int .u8 (q.en:Int),.bool q.r.permit,I q.r.proto,.int .u32 (q.r.sa:Int),I q.r.sb,.int .u32 (q.r.da:Int),I q.r.db,.int .u32 (q.r.sl:Int),.int .u32 (q.r.sh:Int),.int .u32 (q.r.dl:Int),.int .u32 (q.r.dh:Int),
  .int .u32 (q.a:Int),.int .u32 (q.b:Int),.int .u8 (q.p:Int),.int .u16 (q.m:Int),.int .u16 (q.n:Int),I q.hops,.int .u32 (q.ad:Int)]
abbrev qV (q:QN):Value:=.agg ⟨qC q⟩
def rl0:Rl:=⟨false,0,0,0,0,0,0,0,0,0⟩
def rlH:Rl:=⟨true,-1,0,0,0,0,0,65535,0,65535⟩
def q0:QN:=⟨0,[],[],[],0,rl0,0,0,0,0,0,0,0⟩
theorem Xm7 {m:Mem} {b o n:Nat} {cs cs':List Value} {ty:Option Nat} (h:m.get b=some (.cells cs 0 0 false ty)) (v:Value) (hn:v.cells.size=n) (h1:v.cells.toList.all one=true) (ho:o + n ≤ cs.length) (hc:cs.take o ++ v.cells.toList ++ cs.drop (o + n)=cs') {B:Nat} (hB:B ≤ b) :
    ∃ m',X7 n (pt b o 0) v m=some m'∧Fb B m m'∧m'.next=m.next∧m'.get b=some (.cells cs' 0 0 false ty)∧∀ c,c ≠ b→m'.get c=m.get c:=by
  obtain ⟨m',k1,k2⟩:=X3g (o:=o) (n:=n) (v:=v) h hn (Nat.zero_le _) ho h1 hc
  exact ⟨m',k1,((Fb.refl B _).put _ hB).meq k2,by rw [k2.next,Mem.next_put],by rw [k2.get,Mem.get_put,if_pos rfl],fun c hc=>by rw [k2.get,Mem.get_put,if_neg (fun e=>hc e.symm)]⟩
def fromW:Str:=[102,114,111,109]
def toW:Str:=[116,111]
def protoW:Str:=[112,114,111,116,111]
def sportsW:Str:=[115,112,111,114,116,115]
def dportsW:Str:=[100,112,111,114,116,115]
def opt2 (c:Bool) (w v:Str):Str:=if c=true then [32] ++ w ++ [32] ++ v else []
def cF (r:Rl):Bool:=decide (r.sb ≠ 0)
def cT (r:Rl):Bool:=decide (r.db ≠ 0)
def cP (r:Rl):Bool:=decide (r.proto ≠ -1)
def cS (r:Rl):Bool:=decide (r.sl ≠ 0∨r.sh ≠ 65535)
def cD (r:Rl):Bool:=decide (r.dl ≠ 0∨r.dh ≠ 65535)
def X39 (r:Rl):Str:=opt2 (cF r) fromW (X1c r.sa r.sb) ++ opt2 (cT r) toW (X1c r.da r.db) ++ opt2 (cP r) protoW (itoa r.proto) ++ opt2 (cS r) sportsW (Xu r.sl r.sh) ++ opt2 (cD r) dportsW (Xu r.dl r.dh)
theorem X4f (a:Nat) (b:Int) (ha:a < 4294967296) (hb:X5j b=true):(X1c a b).length ≤ 110:=by
  have h1:=X2e a ha
  have h2:=Sh.itoa_len b hb
  unfold X1c
  simp only [List.length_append,List.length_cons,List.length_nil] at h1 ⊢
  omega
theorem X4m (a b:Nat) (ha:a < 4294967296) (hb:b < 4294967296):(Xu a b).length ≤ 41:=by
  have h1:=X1l a (by omega)
  have h2:=X1l b (by omega)
  unfold Xu
  simp only [List.length_append,List.length_cons,List.length_nil]
  omega
end Go.Ab
namespace Go.Ab.Sh
open Go Go.Ab Go.Lib
theorem X5n (c:Bool) (w v t:Str):(if c=true then t ++ ([32] ++ w ++ [32]) ++ v else t)=t ++ opt2 c w v:=by
  unfold opt2
  cases c <;> simp
theorem Xu1 {β:Type} (x y:Nat) (A B:β):(if (x:Int) ≠ 0 then A else if (y:Int) ≠ 65535 then A else B)=if decide (x ≠ 0∨y ≠ 65535)=true then A else B:=by
  by_cases h1:x=0
  . rw [if_neg (by omega)]
    by_cases h2:y=65535
    . rw [if_neg (by omega),if_neg (by simp; omega)]
    . rw [if_pos (by omega),if_pos (by simp; omega)]
  . rw [if_pos (by omega),if_pos (by simp; omega)]
theorem Xtb {β:Type} (r:Rl) (A B:β):(if (r.dl:Int) ≠ 0 then A else if (r.dh:Int) ≠ 65535 then A else B)=if cD r=true then A else B:=Xu1 r.dl r.dh A B
theorem Xuc {β:Type} (r:Rl) (A B:β):(if (r.sl:Int) ≠ 0 then A else if (r.sh:Int) ≠ 65535 then A else B)=if cS r=true then A else B:=Xu1 r.sl r.sh A B
theorem X8t (c:Bool) (w v:Str):(opt2 c w v).length ≤ w.length + v.length + 2:=by
  unfold opt2
  cases c <;> simp; omega
theorem c_parts (r:Rl) (h:RlOk r) (d:Nat) (m:Mem):TA (d + 5) Q26 [rlV r] m=some (sv (X39 r),m):=by
  rw [X70]
  let M:=(X4 m m.next).push (.cells (rlC r) 0 0 false (some (2 * Q78 + 1)))
  refine Xq (m1:=M) ?_ (Fb.push _ (Nat.le_refl _)) rfl
  have ld:∀ o v,(rlC r)[o]?=some v→X6 false 1 (pt m.next o 0) M=some v:=fun o v hv=>X10 (m:=X4 m m.next) hv
  have g:M.get m.next=some (.cells (rlC r) 0 0 false (some (2 * Q78 + 1))):=Xl (X4 m m.next) _
  have l2:∀ o cs,o + 2 ≤ 10→((rlC r).drop o).take 2=cs→X6 true 2 (pt m.next o 0) M=some (.agg ⟨cs⟩):=fun o cs ho hc=>Xk g ho hc
  have f1:=X4f r.sa r.sb h.sa h.sb
  have f2:=X4f r.da r.db h.da h.db
  have f3:=itoa_len r.proto h.proto
  have f4:=X4m r.sl r.sh h.sl h.sh
  have f5:=X4m r.dl r.dh h.dl h.dh
  have c1:TA (d + 4) Q16 [pfx r.sa r.sb] M=_:=c_refPrefixText r.sa h.sa r.sb h.sb d M
  have c2:TA (d + 4) Q16 [pfx r.da r.db] M=_:=c_refPrefixText r.da h.da r.db h.db d M
  have c3:TA (d + 4) Q1 [I r.proto] M=_:=c_Number r.proto h.proto (d + 2) M
  have c4:TA (d + 4) Q2l [Xz r.sl r.sh] M=_:=c_span r.sl r.sh h.sl h.sh (d + 1) M
  have c5:TA (d + 4) Q2l [Xz r.dl r.dh] M=_:=c_span r.dl r.dh h.dl h.dh (d + 1) M
  have e1:Value.string ⟨#[32,102,114,111,109,32]⟩=sv ([32] ++ fromW ++ [32]):=rfl
  have e2:Value.string ⟨#[32,116,111,32]⟩=sv ([32] ++ toW ++ [32]):=rfl
  have e3:Value.string ⟨#[32,112,114,111,116,111,32]⟩=sv ([32] ++ protoW ++ [32]):=rfl
  have e4:Value.string ⟨#[32,115,112,111,114,116,115,32]⟩=sv ([32] ++ sportsW ++ [32]):=rfl
  have e5:Value.string ⟨#[32,100,112,111,114,116,115,32]⟩=sv ([32] ++ dportsW ++ [32]):=rfl
  have w1:([32] ++ fromW ++ [32]).length=6:=rfl
  have w2:([32] ++ toW ++ [32]).length=4:=rfl
  have w3:([32] ++ protoW ++ [32]).length=7:=rfl
  have w4:([32] ++ sportsW ++ [32]).length=8:=rfl
  have w5:([32] ++ dportsW ++ [32]).length=8:=rfl
  -- from behind
  have s5:∀ t:Str,t.length ≤ 2000→Q46 ⟨TA (d + 4),18446744073709551616⟩ (pt m.next 0 0) (sv t) M=some (sv (t ++ opt2 (cD r) dportsW (Xu r.dl r.dh)),M):=by
    intro t ht
    have q1:=ld (0 + 8 + 0) (.int .u32 (r.dl:Int)) rfl
    have q2:=ld (0 + 8 + 1) (.int .u32 (r.dh:Int)) rfl
    have q3:=l2 (0 + 8) [.int .u32 (r.dl:Int),.int .u32 (r.dh:Int)] (by omega) rfl
    unfold Q46 Q67 Q68
    simp only [Xg,X0,q1,q2,q3,Q1o,X8,Xd,e5,Qg _ _ t ([32] ++ dportsW ++ [32]) (by rw [w5]; omega),c5,X5,Qg _ _ (t ++ ([32] ++ dportsW ++ [32])) (Xu r.dl r.dh) (by rw [List.length_append,w5]; omega)]
    rw [Xtb,← X5n]
    by_cases hc:cD r=true
    . rw [if_pos hc,if_pos hc]
    . rw [if_neg hc,if_neg hc]
  have s4:∀ t:Str,t.length ≤ 1900→Q47 ⟨TA (d + 4),18446744073709551616⟩ (pt m.next 0 0) (sv t) M=some (sv (t ++ opt2 (cS r) sportsW (Xu r.sl r.sh) ++ opt2 (cD r) dportsW (Xu r.dl r.dh)),M):=by
    intro t ht
    have q1:=ld (0 + 6 + 0) (.int .u32 (r.sl:Int)) rfl
    have q2:=ld (0 + 6 + 1) (.int .u32 (r.sh:Int)) rfl
    have q3:=l2 (0 + 6) [.int .u32 (r.sl:Int),.int .u32 (r.sh:Int)] (by omega) rfl
    unfold Q47 Q69
    simp only [Xg,X0,q1,q2,q3,Q1o,X8,Xd,e4,Qg _ _ t ([32] ++ sportsW ++ [32]) (by rw [w4]; omega),c4,X5,Qg _ _ (t ++ ([32] ++ sportsW ++ [32])) (Xu r.sl r.sh) (by rw [List.length_append,w4]; omega)]
    rw [← X5n (cS r)]
    rw [Xuc]
    by_cases hc:cS r=true
    . rw [if_pos hc,if_pos hc]
      exact s5 _ (by rw [List.length_append,List.length_append,w4]; omega)
    . rw [if_neg hc,if_neg hc]
      exact s5 t (by omega)
  have s3:∀ t:Str,t.length ≤ 1800→Q48 ⟨TA (d + 4),18446744073709551616⟩ (pt m.next 0 0) (sv t) M=some (sv (t ++ opt2 (cP r) protoW (itoa r.proto) ++ opt2 (cS r) sportsW (Xu r.sl r.sh) ++ opt2 (cD r) dportsW (Xu r.dl r.dh)),M):=by
    intro t ht
    have q1:=ld (0 + 1) (I r.proto) rfl
    unfold Q48
    simp only [Xg,X0,q1,Q1o,X8,e3,Qg _ _ t ([32] ++ protoW ++ [32]) (by rw [w3]; omega),c3,X5,Qg _ _ (t ++ ([32] ++ protoW ++ [32])) (itoa r.proto) (by rw [List.length_append,w3]; omega)]
    rw [← X5n (cP r)]
    unfold cP
    by_cases h1:r.proto=-1
    . rw [if_neg (by simpa using h1),if_neg (by simpa using h1)]
      exact s4 t (by omega)
    . rw [if_pos h1,if_pos (by simpa using h1)]
      exact s4 _ (by rw [List.length_append,List.length_append,w3]; omega)
  have s2:∀ t:Str,t.length ≤ 1600→Q49 ⟨TA (d + 4),18446744073709551616⟩ (pt m.next 0 0) (sv t) M=some (sv (t ++ opt2 (cT r) toW (X1c r.da r.db) ++ opt2 (cP r) protoW (itoa r.proto) ++ opt2 (cS r) sportsW (Xu r.sl r.sh) ++ opt2 (cD r) dportsW (Xu r.dl r.dh)),M):=by
    intro t ht
    have q1:=ld (0 + 4 + 1) (I r.db) rfl
    have q3:=l2 (0 + 4) [.int .u32 (r.da:Int),I r.db] (by omega) rfl
    unfold Q49
    simp only [Xg,X0,q1,q3,Q1o,X8,e2,Qg _ _ t ([32] ++ toW ++ [32]) (by rw [w2]; omega),c2,X5,Qg _ _ (t ++ ([32] ++ toW ++ [32])) (X1c r.da r.db) (by rw [List.length_append,w2]; omega)]
    rw [← X5n (cT r)]
    unfold cT
    by_cases h1:r.db=0
    . rw [if_neg (by simpa using h1),if_neg (by simpa using h1)]
      exact s3 t (by omega)
    . rw [if_pos h1,if_pos (by simpa using h1)]
      exact s3 _ (by rw [List.length_append,List.length_append,w2]; omega)
  have q1:=ld (0 + 2 + 1) (I r.sb) rfl
  have q3:=l2 (0 + 2) [.int .u32 (r.sa:Int),I r.sb] (by omega) rfl
  have ez:Value.string ⟨#[]⟩=sv []:=rfl
  have hcs:(Value.cells (rlV r)).toList=rlC r:=rfl
  unfold Q39 Q9i
  rw [hcs,Xh]
  show Q6a ⟨TA (d + 4),18446744073709551616⟩ (pt m.next 0 0) (.string ⟨#[]⟩) M=_
  unfold Q6a
  simp only [Xg,X0,q1,q3,Q1o,X8,ez,e1,Qg _ _ [] ([32] ++ fromW ++ [32]) (by rw [w1]; simp),c1,X5,Qg _ _ ([] ++ ([32] ++ fromW ++ [32])) (X1c r.sa r.sb) (by rw [List.length_append,w1]; simp; omega)]
  have hP:X39 r=([] ++ opt2 (cF r) fromW (X1c r.sa r.sb)) ++ opt2 (cT r) toW (X1c r.da r.db) ++ opt2 (cP r) protoW (itoa r.proto) ++ opt2 (cS r) sportsW (Xu r.sl r.sh) ++ opt2 (cD r) dportsW (Xu r.dl r.dh):=rfl
  rw [hP,← X5n (cF r)]
  unfold cF
  by_cases h1:r.sb=0
  . rw [if_neg (by simpa using h1),if_neg (by simpa using h1)]
    exact s2 [] (by simp)
  . rw [if_pos h1,if_pos (by simpa using h1)]
    exact s2 _ (by rw [List.length_append,List.length_append,w1]; simp; omega)
end Go.Ab.Sh

set_option maxRecDepth 100000
set_option linter.unusedSimpArgs false
set_option linter.unusedVariables false
namespace Go.Ab
open Go Go.Lib Go.Ab.Sh
theorem SL.atk {m:Mem} {v:Value} {ws:List Str} (h:SL m v ws) (k:IntKind) {i:Nat} {w:Str} (hw:ws[i]?=some w):∃ p,X9 1 v (.int k (i:Int))=some p∧X6 false 1 p m=some (sv w):=by
  obtain ⟨p,h1,h2⟩:=h.at hw
  refine ⟨p,?_,h2⟩
  obtain ⟨b,o,r,c,fro,ro,ty,rfl,_⟩:=h
  rw [← h1,X1r,X1r]
  rfl
theorem SL.frn {m m':Mem} {v:Value} {ws:List Str} (h:SL m v ws) (f:Fr [] m m'):SL m' v ws:=h.fr f (by simp)
structure QOk (q:QN):Prop where
  kind:q.kind < 256
  dev:q.dev.length ≤ 4194304
  ifc:q.ifc.length ≤ 4194304
  vrf:q.vrf.length ≤ 4194304
  en:q.en < 256
  r:RlOk q.r
  a:q.a < 4294967296
  b:q.b < 4294967296
  p:q.p ≤ 255
  m:q.m ≤ 65535
  n:q.n ≤ 65535
  hops:X5j q.hops=true
  ad:q.ad < 4294967296
theorem QOk.hb {q:QN} (h:QOk q):HB q.a q.b q.p q.m q.n:=⟨h.a,h.b,h.p,h.m,h.n⟩
def writeT (q:QN):Str:=match kindsL[q.kind - 1]? with
  | none=>[]
  | some w=>if q.kind < 1 then [] else
    if q.kind ≤ 2 then (if q.en < 1 then [] else match endsL[q.en - 1]? with
      | none=>[]
      | some e=>w ++ [32] ++ q.dev ++ [32] ++ q.ifc ++ [32] ++ e ++ X39 q.r)
    else if q.kind=3 then w ++ [32] ++ q.dev ++ [32] ++ q.ifc ++ X39 q.r
    else if q.kind=4 then w ++ [32] ++ q.dev ++ [32] ++ q.ifc ++ [32] ++ itoa q.hops ++ [32] ++ X2j q.a q.b q.p q.m q.n
    else if q.kind ≤ 6 then (if q.vrf ≠ [] then w ++ [32] ++ q.dev ++ [32,118,114,102,32] ++ q.vrf else w ++ [32] ++ q.dev)
    else w ++ [32] ++ X1j q.ad
theorem Xdb (r:Rl) (h:RlOk r):(X39 r).length ≤ 1000:=by
  have f1:=X4f r.sa r.sb h.sa h.sb
  have f2:=X4f r.da r.db h.da h.db
  have f3:=itoa_len r.proto h.proto
  have f4:=X4m r.sl r.sh h.sl h.sh
  have f5:=X4m r.dl r.dh h.dl h.dh
  have g1:=X8t (cF r) fromW (X1c r.sa r.sb)
  have g2:=X8t (cT r) toW (X1c r.da r.db)
  have g3:=X8t (cP r) protoW (itoa r.proto)
  have g4:=X8t (cS r) sportsW (Xu r.sl r.sh)
  have g5:=X8t (cD r) dportsW (Xu r.dl r.dh)
  have w1:fromW.length=4:=rfl
  have w2:toW.length=2:=rfl
  have w3:protoW.length=5:=rfl
  have w4:sportsW.length=6:=rfl
  have w5:dportsW.length=6:=rfl
  unfold X39
  simp only [List.length_append]
  omega
theorem Xde:∀ w ∈ kindsL,w.length ≤ 6:=by decide
theorem Xh3:∀ w ∈ endsL,w.length ≤ 10:=by decide
theorem Xiu (r:Rl) (m:Mem):again (pur (some (rlV r)) m) (rlV r)=true:=by
  show vsame 8 (rlV r) (rlV r)=true
  simp [vsame,rlC,vsame.vsames]
end Go.Ab
namespace Go.Ab.Sh
open Go Go.Ab Go.Lib
theorem Xg0 (a b p m n:Nat) (mm:Mem):again (pur (some (hdr a b p m n)) mm) (hdr a b p m n)=true:=by
  show vsame 8 (hdr a b p m n) (hdr a b p m n)=true
  simp [vsame,vsame.vsames]
theorem getQ {q:QN} {m:Mem} {b:Nat} {ty:Option Nat} (h:m.get b=some (.cells (qC q) 0 0 false ty)) {o:Nat} {v:Value} (hv:(qC q)[o]?=some v):X6 false 1 (pt b o 0) m=some v:=Xo h hv
theorem c_Write (q:QN) (h:QOk q) (d:Nat) (m:Mem):TA (d + 6) Qt [qV q] m=some (sv (writeT q),m):=by
  rw [X6u]
  let M:=(X4 m m.next).push (.cells (qC q) 0 0 false (some (2 * Qb + 1)))
  have g:M.get m.next=some (.cells (qC q) 0 0 false (some (2 * Qb + 1))):=Xl (X4 m m.next) _
  have F0:Fb m.next (X4 m m.next) M:=Fb.push _ (Nat.le_refl _)
  have hk:=h.kind
  have n0:M.next=m.next + 1:=rfl
  have ld:∀ (m1:Mem),m1.get m.next=some (.cells (qC q) 0 0 false (some (2 * Qb + 1)))→∀ o v,(qC q)[o]?=some v→X6 false 1 (pt m.next o 0) m1=some v:=fun m1 g1 o v hv=>getQ g1 hv
  have go:∃ m1,Q65 ⟨TA (d + 5),18446744073709551616⟩ (pt m.next 0 0) M=some (sv (writeT q),m1)∧Fb m.next M m1:=by
    have q0:=ld M g (0 + 0) (.int .u8 (q.kind:Int)) rfl
    have ez:Value.string ⟨#[]⟩=sv []:=rfl
    unfold Q65 Q64
    simp only [Xg,X0,q0,Qf,Q4s,X8,Xd,ez]
    by_cases h0:(q.kind:Int) < 1
    . rw [if_pos h0]
      refine ⟨M,?_,.refl _ _⟩
      have:writeT q=[]:=by
        unfold writeT
        split
        . rfl
        . rw [if_pos (by omega)]
      rw [this]
    . rw [if_neg h0]
      by_cases h7:(7:Int) < (q.kind:Int)
      . rw [if_pos h7]
        refine ⟨M,?_,.refl _ _⟩
        have:kindsL[q.kind - 1]?=none:=List.getElem?_eq_none (by show 7 ≤ q.kind - 1; omega)
        have:writeT q=[]:=by unfold writeT; simp only [this]
        rw [this]
      . rw [if_neg h7]
        have hlt:q.kind - 1 < kindsL.length:=by show q.kind - 1 < 7; omega
        have hw:kindsL[q.kind - 1]?=some (kindsL[q.kind - 1]):=List.getElem?_eq_getElem hlt
        have hwl:=Xde _ (List.getElem_mem hlt)
        generalize kindsL[q.kind - 1]=w at hw hwl
        obtain ⟨vK,mK,k1,k2,k3⟩:=c_Kinds (d + 4) M
        have k1:TA (d + 5) Q1m [] M=some (vK,mK):=k1
        have FK:Fb m.next M mK:=Fr.toFb k2 (by omega)
        have gK:mK.get m.next=some (.cells (qC q) 0 0 false (some (2 * Qb + 1))):=by rw [k2.get _ (by omega) (by simp)]; exact g
        have nK:=k2.next
        have w1:IntKind.u8.wrap ((q.kind:Int) - 1)=((q.kind - 1:Nat):Int):=by rw [IntWalk.u8_in _ (by omega)]; omega
        obtain ⟨p,p1,p2⟩:=k3.atk .u8 hw
        have x0:=ld mK gK (0 + 0) (.int .u8 (q.kind:Int)) rfl
        have x1:=ld mK gK (0 + 1) (sv q.dev) rfl
        have x2:=ld mK gK (0 + 2) (sv q.ifc) rfl
        have x3:=ld mK gK (0 + 3) (sv q.vrf) rfl
        have x4:=ld mK gK (0 + 4) (.int .u8 (q.en:Int)) rfl
        have x20:=ld mK gK (0 + 20) (I q.hops) rfl
        have x21:=ld mK gK (0 + 21) (.int .u32 (q.ad:Int)) rfl
        have x5:X6 true 10 (pt m.next (0 + 5) 0) mK=some (rlV q.r):=Xk gK (by show 0 + 5 + 10 ≤ 22; omega) rfl
        have x15:X6 true 5 (pt m.next (0 + 15) 0) mK=some (hdr q.a q.b q.p q.m q.n):=Xk gK (by show 0 + 15 + 5 ≤ 22; omega) rfl
        have l1:=h.dev
        have l2:=h.ifc
        have l3:=h.vrf
        have l4:=Xdb q.r h.r
        have l5:=itoa_len q.hops h.hops
        have l6:=Xbh h.hb
        have l7:=X2e q.ad h.ad
        have es:Value.string ⟨#[32]⟩=sv [32]:=rfl
        have ev:Value.string ⟨#[32,118,114,102,32]⟩=sv [32,118,114,102,32]:=rfl
        have hwr:writeT q=(if q.kind ≤ 2 then (if q.en < 1 then [] else match endsL[q.en - 1]? with
              | none=>[]
              | some e=>w ++ [32] ++ q.dev ++ [32] ++ q.ifc ++ [32] ++ e ++ X39 q.r)
            else if q.kind=3 then w ++ [32] ++ q.dev ++ [32] ++ q.ifc ++ X39 q.r
            else if q.kind=4 then w ++ [32] ++ q.dev ++ [32] ++ q.ifc ++ [32] ++ itoa q.hops ++ [32] ++ X2j q.a q.b q.p q.m q.n
            else if q.kind ≤ 6 then (if q.vrf ≠ [] then w ++ [32] ++ q.dev ++ [32,118,114,102,32] ++ q.vrf else w ++ [32] ++ q.dev)
            else w ++ [32] ++ X1j q.ad):=by
          unfold writeT
          simp only [hw]
          rw [if_neg (by omega)]
        have cp:TA (d + 5) Q26 [rlV q.r] mK=_:=c_parts q.r h.r d mK
        have cn:TA (d + 5) Q1 [I q.hops] mK=_:=c_Number q.hops h.hops (d + 3) mK
        have ch:TA (d + 5) Q5i [hdr q.a q.b q.p q.m q.n] mK=_:=c_refHeadText h.hb (d + 1) mK
        have ct:TA (d + 5) Qx [.int .u32 (q.ad:Int)] mK=_:=c_refText q.ad h.ad (d + 2) mK
        unfold Q98 Q97 Q96
        simp only [Xg,X0,q0,Q9t,w1,k1,X5,x0,X1s,Bool.and_true,X18,p1,p2,Qp,X8]
        rw [hwr]
        have four:q.kind=1∨q.kind=2→∃ m1,Q2i ⟨TA (d + 5),18446744073709551616⟩ (.bool true) (pt m.next 0 0) (sv w) (.int .u8 (q.kind:Int)) mK=some (sv (if q.en < 1 then [] else match endsL[q.en - 1]? with
              | none=>[]
              | some e=>w ++ [32] ++ q.dev ++ [32] ++ q.ifc ++ [32] ++ e ++ X39 q.r),m1)∧Fb m.next M m1:=by
          intro _
          unfold Q2i Q62
          simp only [Xd,Xg,X0,x4,Qf,Q4s,X8,ez]
          by_cases e0:(q.en:Int) < 1
          . rw [if_pos e0,if_pos (by omega:q.en < 1)]
            exact ⟨mK,rfl,FK⟩
          . rw [if_neg e0,if_neg (by omega:¬ q.en < 1)]
            by_cases e7:(7:Int) < (q.en:Int)
            . rw [if_pos e7,List.getElem?_eq_none (by show 7 ≤ q.en - 1; omega)]
              exact ⟨mK,rfl,FK⟩
            . rw [if_neg e7]
              have hle:q.en - 1 < endsL.length:=by show q.en - 1 < 7; omega
              have he:endsL[q.en - 1]?=some (endsL[q.en - 1]):=List.getElem?_eq_getElem hle
              have hel:=Xh3 _ (List.getElem_mem hle)
              generalize endsL[q.en - 1]=e at he hel
              obtain ⟨vE,mE,y1,y2,y3⟩:=c_Endings (d + 4) mK
              have y1:TA (d + 5) Q1n [] mK=some (vE,mE):=y1
              have gE:mE.get m.next=some (.cells (qC q) 0 0 false (some (2 * Qb + 1))):=by rw [y2.get _ (by omega) (by simp)]; exact gK
              have z1:=ld mE gE (0 + 1) (sv q.dev) rfl
              have z2:=ld mE gE (0 + 2) (sv q.ifc) rfl
              have z4:=ld mE gE (0 + 4) (.int .u8 (q.en:Int)) rfl
              have z5:X6 true 10 (pt m.next (0 + 5) 0) mE=some (rlV q.r):=Xk gE (by show 0 + 5 + 10 ≤ 22; omega) rfl
              have w2:IntKind.u8.wrap ((q.en:Int) - 1)=((q.en - 1:Nat):Int):=by have:=h.en; rw [IntWalk.u8_in _ (by omega)]; omega
              obtain ⟨pe,pe1,pe2⟩:=y3.atk .u8 he
              have cpE:TA (d + 5) Q26 [rlV q.r] mE=_:=c_parts q.r h.r d mE
              refine ⟨mE,?_,FK.trans (Fr.toFb y2 (by omega))⟩
              rw [he]
              generalize q.dev=D at *
              generalize q.ifc=J at *
              generalize X39 q.r=PT at *
              simp (disch:=(simp only [List.length_append,List.length_cons,List.length_nil]; omega)) only [es,Qg,X0,x1,x2,x4,Q9t,w2,x5,y1,X5,z1,z2,z4,z5,X65,X1s,Xiu,Bool.and_true,X18,pe1,pe2,cpE]
        by_cases c1:(q.kind:Int)=1
        . rw [if_pos c1,if_pos (by omega:q.kind ≤ 2),show (Value.bool (decide ((q.kind:Int)=1)))=.bool true by rw [decide_eq_true c1]]
          exact four (.inl (by omega))
        rw [if_neg c1]
        by_cases c2:(q.kind:Int)=2
        . rw [if_pos (by omega:q.kind ≤ 2),show (Value.bool (decide ((q.kind:Int)=2)))=.bool true by rw [decide_eq_true c2]]
          exact four (.inr (by omega))
        rw [if_neg (by omega:¬ q.kind ≤ 2),show (Value.bool (decide ((q.kind:Int)=2)))=.bool false by rw [decide_eq_false c2]]
        refine ⟨mK,?_,FK⟩
        clear four
        unfold Q2i Q95 Q94 Q63
        simp only [Xb,Qp,X0,X8]
        generalize q.dev=D at *
        generalize q.ifc=J at *
        generalize q.vrf=V at *
        generalize X39 q.r=PT at *
        generalize itoa q.hops=IH at *
        generalize X2j q.a q.b q.p q.m q.n=HT at *
        generalize X1j q.ad=AT at *
        by_cases c3:(q.kind:Int)=3
        . rw [if_pos c3,if_pos (by omega:q.kind=3)]
          simp (disch:=(simp only [List.length_append,List.length_cons,List.length_nil]; omega)) only [Xg,es,Qg,X0,x1,x2,x5,cp,X5,X65,Bool.and_true,X18]
        rw [if_neg c3,if_neg (by omega:¬ q.kind=3)]
        by_cases c4:(q.kind:Int)=4
        . rw [if_pos c4,if_pos (by omega:q.kind=4)]
          simp (disch:=(simp only [List.length_append,List.length_cons,List.length_nil]; omega)) only [Xg,es,Qg,X0,x1,x2,x20,x15,cn,ch,X5,X65,Xg0,Bool.and_true,X18]
        rw [if_neg c4,if_neg (by omega:¬ q.kind=4)]
        have tail56:(q.kind=5∨q.kind=6)→(bp (pur (X6 false 1 (pt m.next (0 + 3) 0) mK) mK) fun x57 mm=>bp (pur (bin .neq true true .str x57 (.string ⟨#[]⟩)) mm) fun x58 mm=>brb x58
            (bp (pur (bin .add true true .str (sv w) (sv [32])) mm) fun x59 mm=>bp (pur (X6 false 1 (pt m.next (0 + 1) 0) mm) mm) fun x61 mm=>bp (pur (bin .add false true .str x59 x61) mm) fun x62 mm=>bp (pur (bin .add true true .str x62 (.string ⟨#[32,118,114,102,32]⟩)) mm) fun x63 mm=>bp (pur (X6 false 1 (pt m.next (0 + 3) 0) mm) mm) fun x65 mm=>bp (pur (bin .add false true .str x63 x65) mm) fun x66 mm=>some (x66,mm))
            (bp (pur (bin .add true true .str (sv w) (sv [32])) mm) fun x67 mm=>bp (pur (X6 false 1 (pt m.next (0 + 1) 0) mm) mm) fun x69 mm=>bp (pur (bin .add false true .str x67 x69) mm) fun x70 mm=>some (x70,mm)))=some (sv (if V ≠ [] then w ++ [32] ++ D ++ [32,118,114,102,32] ++ V else w ++ [32] ++ D),mK):=by
          intro _
          simp (disch:=(simp only [List.length_append,List.length_cons,List.length_nil]; omega)) only [x3,X0,ez,Qf6,X8,Qg,x1,ev]
          by_cases hv:V=[]
          . rw [if_neg (by simpa using hv),if_neg (by simpa using hv)]
          . rw [if_pos hv,if_pos hv]
        by_cases c5:(q.kind:Int)=5
        . rw [if_pos c5,if_pos (by omega:q.kind ≤ 6)]
          simp only [Xg,X0,es]
          rw [if_pos c5]
          exact tail56 (.inl (by omega))
        rw [if_neg c5]
        by_cases c6:(q.kind:Int)=6
        . rw [if_pos c6,if_pos (by omega:q.kind ≤ 6)]
          simp only [Xg,X0,es]
          exact tail56 (.inr (by omega))
        rw [if_neg c6,if_neg (by omega:¬ q.kind ≤ 6)]
        simp (disch:=(simp only [List.length_append,List.length_cons,List.length_nil]; omega)) only [Xg,es,Qg,X0,x21,ct,X5]
  obtain ⟨m1,k1,k2⟩:=go
  refine Xq (m1:=m1) ?_ (F0.trans k2) rfl
  have hcs:(Value.cells (qV q)).toList=qC q:=rfl
  unfold Q38
  rw [hcs,Xh]
  exact k1
end Go.Ab.Sh

set_option maxRecDepth 100000
set_option linter.unusedSimpArgs false
set_option linter.unusedVariables false
namespace Go.Ab
open Go Go.Lib Go.Ab.Sh
theorem X2d {W:List Nat} {m0 m:Mem} (F:Fr W m0 m) {b o n:Nat} {cs cs':List Value} {ty:Option Nat} (h:m.get b=some (.cells cs 0 0 false ty)) (v:Value) (hn:v.cells.size=n) (h1:v.cells.toList.all one=true) (ho:o + n ≤ cs.length) (hc:cs.take o ++ v.cells.toList ++ cs.drop (o + n)=cs') (hB:b ∈ W∨m0.next ≤ b) :
    ∃ m',X7 n (pt b o 0) v m=some m'∧Fr W m0 m'∧m'.next=m.next∧m'.get b=some (.cells cs' 0 0 false ty)∧∀ c,c ≠ b→m'.get c=m.get c:=by
  obtain ⟨m',k1,k2⟩:=X3g (o:=o) (n:=n) (v:=v) h hn (Nat.zero_le _) ho h1 hc
  exact ⟨m',k1,(F.put _ hB).meq k2,by rw [k2.next,Mem.next_put],by rw [k2.get,Mem.get_put,if_pos rfl],fun c hc=>by rw [k2.get,Mem.get_put,if_neg (fun e=>hc e.symm)]⟩
theorem X9o {W:List Nat} {m m1:Mem} {v:Value} {x:Option Rs} (hx:x=some (v,m1)) (hF:Fr W (X4 m m.next) m1) :
    ∃ m2,outOf m x=some (v,m2)∧Fr W m m2∧m2.next ≤ m1.next∧(∀ b,b < m.next→m2.get b=m1.get b):=by
  obtain ⟨m2,k1,k2,k3,k4⟩:=Fr.call v hF
  exact ⟨m2,by rw [hx]; simp only [outOf,k1],k2,k3,k4⟩
def X1y (w v:Str) (r:Rl):Option Rl:=
  if w=fromW then (if (prefP v).2.2=0 then some { r with sa:=(prefP v).1,sb:=((prefP v).2.1:Nat) } else none)
  else if w=toW then (if (prefP v).2.2=0 then some { r with da:=(prefP v).1,db:=((prefP v).2.1:Nat) } else none)
  else if w=protoW then (match num 255 v with | some n=>some { r with proto:=(n:Nat) } | none=>none)
  else if w=sportsW then (match X15 v with | some (a,b)=>some { r with sl:=a,sh:=b } | none=>none)
  else if w=dportsW then (match X15 v with | some (a,b)=>some { r with dl:=a,dh:=b } | none=>none)
  else none
end Go.Ab
namespace Go.Ab.Sh
open Go Go.Ab Go.Lib
theorem Xuq (o:Option Nat):bin .geq true true .int (optI o) (.int .i64 0)=some (.bool o.isSome):=by
  cases o with
  | none=>exact Q5u _ _ _ _ _
  | some n=>rw [optI,Q5u,decide_eq_true (by omega)]; rfl
theorem Xsg (b o:Nat):X27 (pt b o 0)=some (pt b o 0):=by rw [Xaa]; rfl
theorem c_part (q:QN) (w v:Str) (hv:v.length ≤ 4194304) (d:Nat) (m:Mem) (b:Nat) (ty:Option Nat) (hb:b < m.next) (g:m.get b=some (.cells (qC q) 0 0 false ty)) :
    ∃ m',TA (d + 6) Q80 [pt b 5 0,sv w,sv v] m=some (.bool (X1y w v q.r).isSome,m')∧Fr [b] m m'∧∀ r',X1y w v q.r=some r'→m'.get b=some (.cells (qC { q with r:=r' }) 0 0 false ty):=by
  rw [X80]
  have go:∃ m1,Q2k ⟨TA (d + 5),18446744073709551616⟩ (sv w) (sv v) (pt b 5 0) (X4 m m.next)=some (.bool (X1y w v q.r).isSome,m1)∧Fr [b] (X4 m m.next) m1∧∀ r',X1y w v q.r=some r'→m1.get b=some (.cells (qC { q with r:=r' }) 0 0 false ty):=by
    have g:(X4 m m.next).get b=some (.cells (qC q) 0 0 false ty):=g
    have hb:b < (X4 m m.next).next:=hb
    generalize X4 m m.next=m0 at g hb ⊢
    have e1:Value.string ⟨#[102,114,111,109]⟩=sv fromW:=rfl
    have e2:Value.string ⟨#[116,111]⟩=sv toW:=rfl
    have e3:Value.string ⟨#[112,114,111,116,111]⟩=sv protoW:=rfl
    have e4:Value.string ⟨#[115,112,111,114,116,115]⟩=sv sportsW:=rfl
    have e5:Value.string ⟨#[100,112,111,114,116,115]⟩=sv dportsW:=rfl
    have cP:TA (d + 5) Q2c [sv v] m0=_:=c_refPrefix v hv d m0
    have cR:TA (d + 5) Q6 [sv v,.int .i64 255] m0=_:=c_Read v hv 255 (by omega) (d + 4) m0
    unfold Q2k Qah Qag
    simp only [e1,e2,Qcp,X0,X8]
    -- a prefix
    have nb:=Xsg b 5
    have pre:w=fromW∨w=toW→∃ m1,Q2v ⟨TA (d + 5),18446744073709551616⟩ (.bool true) (sv v) (sv w) (pt b 5 0) (sv w) m0=some (.bool (X1y w v q.r).isSome,m1)∧Fr [b] m0 m1∧∀ r',X1y w v q.r=some r'→m1.get b=some (.cells (qC { q with r:=r' }) 0 0 false ty):=by
      intro hw
      unfold Q2v
      rw [Xd]
      simp only [cP,X5,Xlb,ex0,ex1,X0]
      rw [Xh]
      obtain ⟨m2,k1,k2,k3,k4⟩:=X1f [] m0 (some (2 * Q2 + 1)) Q5 (v:=pfx (prefP v).1 ((prefP v).2.1:Nat)) (n:=2) rfl rfl rfl
      have ldp:X6 true 2 (pt m0.next 0 0) m2=some (pfx (prefP v).1 ((prefP v).2.1:Nat)):=Xk k4 (by show 2 ≤ 2; omega) rfl
      have g2:m2.get b=some (.cells (qC q) 0 0 false ty):=by rw [k2.get b hb (by simp)]; exact g
      have F2:Fr [b] m0 m2:=k2.mono (by simp)
      have last:∀ m3,Q4j ⟨TA (d + 5),18446744073709551616⟩ (I ((prefP v).2.2:Nat)) m3=some (.bool (decide ((prefP v).2.2=0)),m3):=by
        intro m3
        unfold Q4j
        simp only [Qp,X0]
        by_cases h0:(prefP v).2.2=0
        . rw [decide_eq_true (by omega),decide_eq_true h0]
        . rw [decide_eq_false (by omega),decide_eq_false h0]
      have k1':X7 2 (pt m0.next 0 0) (pfx (prefP v).1 ((prefP v).2.1:Nat)) (m0.push (.cells Q5 0 0 false (some (2 * Q2 + 1))))=some m2:=k1
      simp only [X5,Xe,k1']
      unfold Qaf
      simp only [e1,Qcp,X0,X8,ldp,nb,Xg]
      by_cases hf:w=fromW
      . obtain ⟨m3,s1,s2,s3,s4,s5⟩:=X2d (o:=7) (n:=2) (cs':=qC { q with r:={ q.r with sa:=(prefP v).1,sb:=((prefP v).2.1:Nat) } }) F2 g2 (pfx (prefP v).1 ((prefP v).2.1:Nat)) rfl rfl (by show 9 ≤ 22; omega) rfl (.inl (by simp))
        have s1':X7 2 (pt b (5 + 2) 0) (pfx (prefP v).1 ((prefP v).2.1:Nat)) m2=some m3:=s1
        rw [if_pos hf]
        simp only [s1',Xe,last]
        have hp:X1y w v q.r=if (prefP v).2.2=0 then some { q.r with sa:=(prefP v).1,sb:=((prefP v).2.1:Nat) } else none:=by unfold X1y; rw [if_pos hf]
        rw [hp]
        by_cases h0:(prefP v).2.2=0
        . rw [if_pos h0]
          exact ⟨m3,by simp [h0],s2,fun r' hr=>by cases hr; exact s4⟩
        . rw [if_neg h0]
          exact ⟨m3,by simp [h0],s2,fun r' hr=>by cases hr⟩
      . obtain ⟨m3,s1,s2,s3,s4,s5⟩:=X2d (o:=9) (n:=2) (cs':=qC { q with r:={ q.r with da:=(prefP v).1,db:=((prefP v).2.1:Nat) } }) F2 g2 (pfx (prefP v).1 ((prefP v).2.1:Nat)) rfl rfl (by show 11 ≤ 22; omega) rfl (.inl (by simp))
        have s1':X7 2 (pt b (5 + 4) 0) (pfx (prefP v).1 ((prefP v).2.1:Nat)) m2=some m3:=s1
        have ht:w=toW:=hw.resolve_left hf
        rw [if_neg hf]
        simp only [s1',Xe,last]
        have hp:X1y w v q.r=if (prefP v).2.2=0 then some { q.r with da:=(prefP v).1,db:=((prefP v).2.1:Nat) } else none:=by unfold X1y; rw [if_neg hf,if_pos ht]
        rw [hp]
        by_cases h0:(prefP v).2.2=0
        . rw [if_pos h0]
          exact ⟨m3,by simp [h0],s2,fun r' hr=>by cases hr; exact s4⟩
        . rw [if_neg h0]
          exact ⟨m3,by simp [h0],s2,fun r' hr=>by cases hr⟩
    by_cases hf:w=fromW
    . rw [if_pos hf,decide_eq_true hf]
      exact pre (.inl hf)
    rw [if_neg hf]
    by_cases ht:w=toW
    . rw [decide_eq_true ht]
      exact pre (.inr ht)
    rw [decide_eq_false ht]
    clear pre
    unfold Q2v
    simp only [Xb,e3,e4,e5,Qcp,X0,X8,nb,Xg]
    by_cases hp:w=protoW
    . have hP:X1y w v q.r=match num 255 v with | some n=>some { q.r with proto:=(n:Nat) } | none=>none:=by unfold X1y; rw [if_neg hf,if_neg ht,if_pos hp]
      rw [if_pos hp]
      simp only [cR,X5]
      cases hn:num 255 v with
      | none =>
        obtain ⟨m3,s1,s2,s3,s4,s5⟩:=X2d (W:=[b]) (o:=6) (n:=1) (Fr.refl _ m0) g (I (-1)) rfl rfl (by show 7 ≤ 22; omega) rfl (.inl (by simp))
        have s1':X7 1 (pt b (5 + 1) 0) (I (-1)) m0=some m3:=s1
        have ldp:X6 false 1 (pt b (5 + 1) 0) m3=some (I (-1)):=Xo s4 rfl
        simp only [optI,s1',Xe,ldp,X0,Q5u]
        rw [hP,hn]
        exact ⟨m3,rfl,s2,fun r' hr=>by cases hr⟩
      | some n =>
        obtain ⟨m3,s1,s2,s3,s4,s5⟩:=X2d (W:=[b]) (o:=6) (n:=1) (cs':=qC { q with r:={ q.r with proto:=(n:Nat) } }) (Fr.refl _ m0) g (I (n:Nat)) rfl rfl (by show 7 ≤ 22; omega) rfl (.inl (by simp))
        have s1':X7 1 (pt b (5 + 1) 0) (I (n:Nat)) m0=some m3:=s1
        have ldp:X6 false 1 (pt b (5 + 1) 0) m3=some (I (n:Nat)):=Xo s4 rfl
        simp only [optI,s1',Xe,ldp,X0,Q5u]
        rw [hP,hn,decide_eq_true (by omega:(0:Int) ≤ (n:Nat))]
        exact ⟨m3,rfl,s2,fun r' hr=>by cases hr; exact s4⟩
    rw [if_neg hp]
    obtain ⟨lo,hi,cS,hlh⟩:=c_refPorts v hv (d + 3) m0
    have cS:TA (d + 5) Q3b [sv v] m0=_:=cS
    obtain ⟨m2,k1,k2,k3,k4⟩:=X1f [] m0 (some (2 * Qe + 1)) Qc (v:=Xz lo hi) (n:=2) rfl rfl rfl
    have ldp:X6 true 2 (pt m0.next 0 0) m2=some (Xz lo hi):=Xk k4 (by show 2 ≤ 2; omega) rfl
    have g2:m2.get b=some (.cells (qC q) 0 0 false ty):=by rw [k2.get b hb (by simp)]; exact g
    have F2:Fr [b] m0 m2:=k2.mono (by simp)
    have k1':X7 2 (pt m0.next 0 0) (Xz lo hi) (m0.push (.cells Qc 0 0 false (some (2 * Qe + 1))))=some m2:=k1
    by_cases hs:w=sportsW
    . have hP:X1y w v q.r=match X15 v with | some (a,b)=>some { q.r with sl:=a,sh:=b } | none=>none:=by unfold X1y; rw [if_neg hf,if_neg ht,if_neg hp,if_pos hs]
      rw [if_pos hs]
      obtain ⟨m3,s1,s2,s3,s4,s5⟩:=X2d (o:=11) (n:=2) F2 g2 (Xz lo hi) rfl rfl (by show 13 ≤ 22; omega) rfl (.inl (by simp))
      have s1':X7 2 (pt b (5 + 6) 0) (Xz lo hi) m2=some m3:=s1
      simp only [cS,X5,ex0,ex1,X0]
      rw [Xh]
      simp only [X5,k1',Xe,ldp,X0,s1']
      rw [hP]
      cases hr:X15 v with
      | none=>exact ⟨m3,rfl,s2,fun r' hr=>by cases hr⟩
      | some x =>
        obtain ⟨x,y⟩:=x
        obtain ⟨rfl,rfl⟩:=hlh x y hr
        exact ⟨m3,rfl,s2,fun r' hr=>by cases hr; exact s4⟩
    rw [if_neg hs]
    by_cases hd:w=dportsW
    . have hP:X1y w v q.r=match X15 v with | some (a,b)=>some { q.r with dl:=a,dh:=b } | none=>none:=by unfold X1y; rw [if_neg hf,if_neg ht,if_neg hp,if_neg hs,if_pos hd]
      rw [if_pos hd]
      obtain ⟨m3,s1,s2,s3,s4,s5⟩:=X2d (o:=13) (n:=2) F2 g2 (Xz lo hi) rfl rfl (by show 15 ≤ 22; omega) rfl (.inl (by simp))
      have s1':X7 2 (pt b (5 + 8) 0) (Xz lo hi) m2=some m3:=s1
      simp only [cS,X5,ex0,ex1,X0]
      rw [Xh]
      simp only [X5,k1',Xe,ldp,X0,s1']
      rw [hP]
      cases hr:X15 v with
      | none=>exact ⟨m3,rfl,s2,fun r' hr=>by cases hr⟩
      | some x =>
        obtain ⟨x,y⟩:=x
        obtain ⟨rfl,rfl⟩:=hlh x y hr
        exact ⟨m3,rfl,s2,fun r' hr=>by cases hr; exact s4⟩
    rw [if_neg hd]
    have hP:X1y w v q.r=none:=by unfold X1y; rw [if_neg hf,if_neg ht,if_neg hp,if_neg hs,if_neg hd]
    rw [hP]
    exact ⟨m0,rfl,.refl _ _,fun r' hr=>by cases hr⟩
  obtain ⟨m1,k1,k2,k3⟩:=go
  obtain ⟨m2,q1,q2,_,q4⟩:=X9o (m:=m) k1 k2
  exact ⟨m2,q1,q2,fun r' hr=>by rw [q4 b hb]; exact k3 r' hr⟩
end Go.Ab.Sh

set_option maxRecDepth 100000
set_option linter.unusedSimpArgs false
set_option linter.unusedVariables false
namespace Go.Ab
open Go Go.Lib Go.Ab.Sh
def qnV:Option QN→Value
  | some q=>.tuple ⟨[qV q,I 0]⟩
  | none=>.tuple ⟨[qV q0,I 4]⟩
theorem Xjm (n:Nat) (o:Option QN):refs n 8 (qnV o)=true:=by cases o <;> rfl
def finP (ok:Bool) (q:QN) (s:Str):Option QN:=if ok=true∧(q.kind < 7→Xy q.dev=true)∧(q.kind < 5→Xy q.ifc=true)∧writeT q=s then some q else none
theorem Xw3 (q:QN):(qC q).length=22:=rfl
theorem Xw1 (q:QN):(qC q).all one=true:=rfl
theorem Fr.mono0 {W:List Nat} {m m':Mem} (h:Fr [] m m'):Fr W m m':=h.mono (by simp)
theorem Xw4 {B:Nat} {m:Mem} {b o n:Nat} {cs cs':List Value} {ty:Option Nat} (h:m.get b=some (.cells cs 0 0 false ty)) (v:Value) (hn:v.cells.size=n) (h1:v.cells.toList.all one=true) (ho:o + n ≤ cs.length) (hc:cs.take o ++ v.cells.toList ++ cs.drop (o + n)=cs') (hB:B ≤ b) :
    ∃ m',X7 n (pt b o 0) v m=some m'∧Fb B m m'∧m'.next=m.next∧m'.get b=some (.cells cs' 0 0 false ty)∧∀ c,c ≠ b→m'.get c=m.get c:=Xm7 h v hn h1 ho hc hB
end Go.Ab
namespace Go.Ab.Sh
open Go Go.Ab Go.Lib
noncomputable abbrev tyQ:Option Nat:=some (2 * Qb + 1)
structure PS (mW:Mem) (v:Value) (ws:List Str) (b2 b5:Nat) (m:Mem) (q:QN):Prop where
  sl:SL mW v ws
  fr:Fr [] mW m
  g2:m.get b2=some (.cells Q0 0 0 false tyQ)
  g5:m.get b5=some (.cells (qC q) 0 0 false tyQ)
  w2:b2 < mW.next
  w5:mW.next ≤ b5
  n5:b5 < m.next
theorem PS.s {mW v ws b2 b5 m q} (h:PS mW v ws b2 b5 m q):SL m v ws:=h.sl.fr h.fr (by simp)
theorem PS.ld {mW v ws b2 b5 m q} (h:PS mW v ws b2 b5 m q) {o:Nat} {x:Value} (hx:(qC q)[o]?=some x):X6 false 1 (pt b5 o 0) m=some x:=Xo h.g5 hx
theorem PS.frn {mW v ws b2 b5 m m' q} (h:PS mW v ws b2 b5 m q) (f:Fr [] m m'):PS mW v ws b2 b5 m' q:=by
  have:=h.w2; have:=h.w5; have:=h.fr.next; have:=h.n5
  exact ⟨h.sl,h.fr.trans f,by rw [f.get _ (by omega) (by simp)]; exact h.g2,by rw [f.get _ (by omega) (by simp)]; exact h.g5,h.w2,h.w5,Nat.lt_of_lt_of_le h.n5 f.next⟩
theorem PS.fr5 {mW v ws b2 b5 m m' q q'} (h:PS mW v ws b2 b5 m q) (f:Fr [b5] m m') (g:m'.get b5=some (.cells (qC q') 0 0 false tyQ)):PS mW v ws b2 b5 m' q':=by
  have h2:=h.w2; have h5:=h.w5; have hn:=h.fr.next; have:=h.n5
  refine ⟨h.sl,?_,by rw [f.get _ (by omega) (by simp; omega)]; exact h.g2,g,h2,h5,Nat.lt_of_lt_of_le h.n5 f.next⟩
  have k:=h.fr
  exact ⟨Nat.le_trans k.next f.next,Nat.le_trans f.low k.low,fun x a b _=>f.low2 x (k.low2 x a b (by simp)) (Nat.le_trans b k.next) (fun w hw=>by simp at hw; omega),fun b hb _=>by rw [f.get b (by omega) (by simp; omega),k.get b hb (by simp)],fun b hb=>by
    rcases f.lo b (by omega) with p | p
    . exact .inl p
    . rcases k.lo b hb with r | r
      . exact .inl (Nat.le_trans f.low r)
      . exact .inr (p.trans r)⟩
theorem PS.put {mW v ws b2 b5 m q} (h:PS mW v ws b2 b5 m q) (q':QN) (o n:Nat) (x:Value) (hn:x.cells.size=n) (h1:x.cells.toList.all one=true) (ho:o + n ≤ 22) (hc:(qC q).take o ++ x.cells.toList ++ (qC q).drop (o + n)=qC q') :
    ∃ m',X7 n (pt b5 o 0) x m=some m'∧PS mW v ws b2 b5 m' q'∧Fr [b5] m m':=by
  obtain ⟨m',k1,k2,k3,k4,k5⟩:=X2d (W:=[b5]) (Fr.refl _ m) h.g5 x hn h1 ho hc (.inl (by simp))
  exact ⟨m',k1,h.fr5 k2 k4,k2⟩
theorem PS.at {mW v ws b2 b5 m q} (h:PS mW v ws b2 b5 m q) {i:Nat} {w:Str} (hw:ws[i]?=some w):∃ p,X9 1 v (.int .i64 (i:Int))=some p∧X6 false 1 p m=some (sv w):=h.s.at hw
theorem aBq (z:Value):Xn Q0 [(0,1),(1,1),(2,1),(3,1),(4,1),(5,10),(15,5),(20,1),(21,1)] []=some (qV q0):=Eq.trans rfl rfl
theorem aBqk (k:Nat):Xn Q0 [(0,1),(1,1),(2,1),(3,1),(4,1),(5,10),(15,5),(20,1),(21,1)] [(0,(.int .u8 (k:Int)))]=some (qV { q0 with kind:=k }):=Eq.trans rfl rfl
variable {mW:Mem} {v:Value} {ws:List Str} {b2 b5:Nat} {m:Mem} {q:QN}
theorem Xuj (h:PS mW v ws b2 b5 m q):∃ m',(bp (pur (Xn Q0 [(0,1),(1,1),(2,1),(3,1),(4,1),(5,10),(15,5),(20,1),(21,1)] []) m) fun x0 m =>
  bp (unt (X7 22 (pt b2 0 0) x0 m)) fun _ m =>
  ob (ob (X6 true 22 (pt b2 0 0) m) fun v=>ob (some [(.int .i64 4)]) fun l=>some (v :: l)) fun l=>some (X1a l,m))=some (qnV none,m')∧Fb b2 m m':=by
  obtain ⟨m',k1,k2,_⟩:=X14 (n:=22) (tail:=[.int .i64 4]) (vs:=qC q0) h.g2 rfl rfl rfl (Nat.le_refl b2)
  refine ⟨m',?_,k2⟩
  rw [aBq undef,X0]
  exact k1
theorem X8s (G:Gt) (h:PS mW v ws b2 b5 m q):∃ m',Qa G (.bool true) (pt b2 0 0) (pt b5 0 0) m=some (qnV none,m')∧Fb b2 m m':=by
  unfold Qa
  rw [Xd]
  exact Xuj h
theorem Xl2 (G:Gt) (h:PS mW v ws b2 b5 m q):∃ m',Qa G (.bool false) (pt b2 0 0) (pt b5 0 0) m=some (qnV (some q),m')∧Fb b2 m m':=by
  obtain ⟨m',k1,k2,_⟩:=X14 (n:=22) (tail:=[.int .i64 0]) (vs:=qC q) h.g2 rfl rfl rfl (Nat.le_refl b2)
  refine ⟨m',?_,k2⟩
  unfold Qa
  have hl:X6 true 22 (pt b5 0 0) m=some (qV q):=Xk h.g5 (by show 22 ≤ 22; omega) rfl
  rw [Xb,hl,X0]
  exact k1
theorem Xtx (G:Gt) (h:PS mW v ws b2 b5 m q) (c:Bool):∃ m',Qa G (.bool c) (pt b2 0 0) (pt b5 0 0) m=some (qnV (if c=true then none else some q),m')∧Fb b2 m m':=by
  cases c
  . exact Xl2 G h
  . exact X8s G h
theorem Xfy (d:Nat) (h:PS mW v ws b2 b5 m q) (ok:Bool) (hq:ok=true→QOk q) (s:Str):∃ m',Qk ⟨TA (d + 6),18446744073709551616⟩ (.bool ok) (pt b5 0 0) (sv s) (pt b2 0 0) m=some (qnV (finP ok q s),m')∧Fb b2 m m':=by
  unfold Qk
  have un:∀ c:Bool,un .not (.bool c)=some (.bool !c):=fun c=>by cases c <;> exact Eq.trans rfl rfl
  cases ok with
  | false =>
    simp only [un,X0,Bool.not_false,Xd]
    have:finP false q s=none:=by unfold finP; rw [if_neg (by simp)]
    rw [this]
    exact X8s _ h
  | true =>
    have hq:=hq rfl
    have l0:=h.ld (o:=0 + 0) (x:=.int .u8 (q.kind:Int)) rfl
    have l1:=h.ld (o:=0 + 1) (x:=sv q.dev) rfl
    have l2:=h.ld (o:=0 + 2) (x:=sv q.ifc) rfl
    have hl:X6 true 22 (pt b5 0 0) m=some (qV q):=Xk h.g5 (by show 22 ≤ 22; omega) rfl
    have n1:TA (d + 6) Q13 [sv q.dev] m=_:=c_refName q.dev hq.dev (d + 5) m
    have n2:TA (d + 6) Q13 [sv q.ifc] m=_:=c_refName q.ifc hq.ifc (d + 5) m
    have cw:=c_Write q hq d m
    simp only [un,X0,Bool.not_true,Xb,Xg,l0,l1,l2,Qf,X8,n1,n2,X5,hl,cw,Qf6,Xfv,decide_eq_true_eq,Bool.false_eq_true,if_false]
    have fin:∀ A:Prop,[Decidable A]→(A ↔ (q.kind < 7→Xy q.dev=true)∧(q.kind < 5→Xy q.ifc=true))→finP true q s=if A then (if decide (writeT q ≠ s)=true then none else some q) else none:=by
      intro A _ hA
      unfold finP
      by_cases a:A
      . rw [if_pos a]
        by_cases w:writeT q=s
        . rw [if_pos ⟨rfl,(hA.mp a).1,(hA.mp a).2,w⟩,if_neg (by simpa using w)]
        . rw [if_neg (fun x=>w x.2.2.2),if_pos (by simpa using w)]
      . rw [if_neg a,if_neg (fun x=>a (hA.mpr ⟨x.2.1,x.2.2.1⟩))]
    have five:∃ m',Qa ⟨TA (d + 6),18446744073709551616⟩ (.bool (decide (writeT q ≠ s))) (pt b2 0 0) (pt b5 0 0) m=some (qnV (if decide (writeT q ≠ s)=true then none else some q),m')∧Fb b2 m m':=Xtx _ h _
    by_cases k7:(q.kind:Int) < 7
    . rw [if_pos k7]
      cases a1:Xy q.dev with
      | false =>
        rw [if_pos (by decide:(!false)=true),fin False ⟨False.elim,fun x=>by have:=x.1 (by omega); rw [a1] at this; cases this⟩,if_neg id]
        exact X8s _ h
      | true =>
        rw [if_neg (by decide:¬ (!true)=true)]
        by_cases k5:(q.kind:Int) < 5
        . rw [if_pos k5]
          cases a2:Xy q.ifc with
          | false =>
            rw [if_pos (by decide:(!false)=true),fin False ⟨False.elim,fun x=>by have:=x.2 (by omega); rw [a2] at this; cases this⟩,if_neg id]
            exact X8s _ h
          | true =>
            rw [if_neg (by decide:¬ (!true)=true),fin True ⟨fun _=>⟨fun _=>a1,fun _=>a2⟩,fun _=>trivial⟩,if_pos trivial]
            exact five
        . rw [if_neg k5,fin True ⟨fun _=>⟨fun _=>a1,fun x=>by omega⟩,fun _=>trivial⟩,if_pos trivial]
          exact five
    . rw [if_neg k7,if_neg (by omega:¬ (q.kind:Int) < 5),fin True ⟨fun _=>⟨fun x=>by omega,fun x=>by omega⟩,fun _=>trivial⟩,if_pos trivial]
      exact five
end Go.Ab.Sh

set_option maxRecDepth 100000
set_option linter.unusedSimpArgs false
set_option linter.unusedVariables false
namespace Go.Ab
open Go Go.Lib Go.Ab.Sh
theorem Fr.toFbW {B:Nat} {W:List Nat} {m m1:Mem} (h:Fr W m m1) (hW:∀ w ∈ W,B ≤ w) (hB:B ≤ m.next):Fb B m m1 where
  next:=h.next
  low:=h.low
  low2:=fun x a b=>h.low2 x a (Nat.le_trans b hB) (fun w hw=>Nat.le_trans b (hW w hw))
  get:=fun b hb=>h.get b (Nat.lt_of_lt_of_le hb hB) (fun hw=>by have:=hW b hw; omega)
  lo:=fun b hb=>h.lo b hb
def X5e:List Str→Rl→Option Rl
  | a :: b :: rest,r=>match X1y a b r with | none=>none | some r'=>X5e rest r'
  | _,r=>some r
theorem X6e (a b:Str) (rest:List Str) (r:Rl):X5e (a :: b :: rest) r=match X1y a b r with | none=>none | some r'=>X5e rest r':=by rw [X5e]
theorem Xb0 {s:Str} {a b:Nat} (h:X15 s=some (a,b)):a ≤ 65535∧b ≤ 65535:=by
  unfold X15 at h
  split at h
  . cases h
  . split at h
    . rename_i h1 h2
      split at h
      . cases h
        exact ⟨(num_some.mp h1).2,(num_some.mp h2).2⟩
      . cases h
    . cases h
theorem Xpn {w v:Str} {r r':Rl} (h:RlOk r) (e:X1y w v r=some r'):RlOk r':=by
  have hp:=Xml v
  unfold X1y at e
  split at e
  . split at e
    . cases e
      exact { h with sa:=hp.1,sb:=X28 (by omega) }
    . cases e
  split at e
  . split at e
    . cases e
      exact { h with da:=hp.1,db:=X28 (by omega) }
    . cases e
  split at e
  . split at e
    . rename_i n hn
      cases e
      have:=(num_some.mp hn).2
      exact { h with proto:=X28 (by omega) }
    . cases e
  split at e
  . split at e
    . rename_i a b hr
      cases e
      have:=Xb0 hr
      exact { h with sl:=by show a < _; omega,sh:=by show b < _; omega }
    . cases e
  split at e
  . split at e
    . rename_i a b hr
      cases e
      have:=Xb0 hr
      exact { h with dl:=by show a < _; omega,dh:=by show b < _; omega }
    . cases e
  . cases e
end Go.Ab
namespace Go.Ab.Sh
open Go Go.Ab Go.Lib
variable {mW:Mem} {v:Value} {ws:List Str} {b2 b5:Nat} {m:Mem} {q:QN}
theorem Xbn (g2:m.get b2=some (.cells Q0 0 0 false tyQ)):∃ m',(bp (pur (Xn Q0 [(0,1),(1,1),(2,1),(3,1),(4,1),(5,10),(15,5),(20,1),(21,1)] []) m) fun x0 m =>
  bp (unt (X7 22 (pt b2 0 0) x0 m)) fun _ m =>
  ob (ob (X6 true 22 (pt b2 0 0) m) fun v=>ob (some [(.int .i64 4)]) fun l=>some (v :: l)) fun l=>some (X1a l,m))=some (qnV none,m')∧Fb b2 m m':=by
  obtain ⟨m',k1,k2,_⟩:=X14 (n:=22) (tail:=[.int .i64 4]) (vs:=qC q0) g2 rfl rfl rfl (Nat.le_refl b2)
  refine ⟨m',?_,k2⟩
  rw [aBq undef,X0]
  exact k1
theorem X5y (G:Gt) (p5:Value) (g2:m.get b2=some (.cells Q0 0 0 false tyQ)) (s:Str):∃ m',Qk G (.bool false) p5 (sv s) (pt b2 0 0) m=some (qnV none,m')∧Fb b2 m m':=by
  unfold Qk Qa
  have un:un .not (.bool false)=some (.bool true):=Eq.trans rfl rfl
  simp only [un,X0,Xd]
  exact Xbn g2
def X5a (ok:Bool) (ws:List Str) (q:QN) (s:Str):Option QN:=if ok=true then match X5e ws q.r with | none=>none | some r'=>finP true { q with r:=r' } s else none
theorem Xm5 (d:Nat) (s:Str) (hl:ws.length ≤ 5000000) (hw:∀ w ∈ ws,w.length ≤ 4194304):∀ (k:Nat) (rest pre:List Str) (m:Mem) (q:QN) (ok:Bool),ws=pre ++ rest→rest.length < k→PS mW v ws b2 b5 m q→QOk q →
    ∃ m',Q14 ⟨TA (d + 6),18446744073709551616⟩ k (I pre.length) v (.bool ok) (pt b5 0 0) (sv s) (pt b2 0 0) m=some (qnV (X5a ok rest q s),m')∧Fb b2 m m'
  | 0,rest,pre,m,q,ok,he,hk,h,hq=>by omega
  | k + 1,rest,pre,m,q,ok,he,hk,h,hq=>by
    have hn:ws.length=pre.length + rest.length:=by rw [he,List.length_append]
    have w1:IntKind.i64.wrap ((pre.length:Int) + 1)=((pre.length + 1:Nat):Int):=by rw [IntWalk.i64_in _ (by omega)]; omega
    have w2:IntKind.i64.wrap ((pre.length:Int) + 2)=((pre.length + 2:Nat):Int):=by rw [IntWalk.i64_in _ (by omega)]; omega
    have out:∃ m',Qk ⟨TA (d + 6),18446744073709551616⟩ (.bool ok) (pt b5 0 0) (sv s) (pt b2 0 0) m=some (qnV (finP ok q s),m')∧Fb b2 m m':=Xfy d h ok (fun _=>hq) s
    unfold Q14
    simp only [Qz,X0,w1,h.s.len,Qf,X8]
    cases ok with
    | false =>
      have hL:X5a false rest q s=none:=by unfold X5a; rw [if_neg (by decide)]
      have hF:finP false q s=none:=by unfold finP; rw [if_neg (by simp)]
      rw [hF] at out
      rw [hL]
      unfold Q1g
      simp only [Xb]
      split <;> exact out
    | true =>
      have short:¬ 2 ≤ rest.length→X5a true rest q s=finP true q s:=by
        intro hs
        unfold X5a
        rw [if_pos rfl]
        match rest,hs with
        | [],_=>rfl
        | [a],_=>rfl
        | a :: b :: r,hs=>simp at hs
      by_cases h2:2 ≤ rest.length
      . rw [if_pos (by omega)]
        match rest,he,hk,hn,h2 with
        | a :: b :: rest,he,hk,hn,_ =>
          obtain ⟨p,p1,p2⟩:=h.at (i:=pre.length) (w:=a) (by rw [he]; simp)
          obtain ⟨p',p3,p4⟩:=h.at (i:=pre.length + 1) (w:=b) (by rw [he]; simp)
          obtain ⟨m3,c1,c2,c3⟩:=c_part q a b (hw b (by rw [he]; simp)) d m b5 tyQ h.n5 h.g5
          have hfb:Fb b2 m m3:=c2.toFbW (by have:=h.w2; have:=h.w5; simp; omega) (by have:=h.w2; have:=h.fr.next; omega)
          unfold Q1g
          simp only [Xd,Xg,X0,p1,p2,Qz,w1,p3,p4,c1,X5,w2]
          have hl2:pre.length + 2=(pre ++ [a,b]).length:=by simp
          rw [hl2]
          cases hp:X1y a b q.r with
          | none =>
            have hL:X5a true (a :: b :: rest) q s=none:=by unfold X5a; rw [if_pos rfl,X6e,hp]
            rw [hL]
            have g2:m3.get b2=some (.cells Q0 0 0 false tyQ):=by
              have:=h.w2; have:=h.w5; have:=h.fr.next
              rw [c2.get b2 (by omega) (by simp; omega)]; exact h.g2
            -- one more turn of the loop: the flag is false
            obtain ⟨k,rfl⟩:∃ j,k=j + 1:=⟨k - 1,by simp at hk; omega⟩
            obtain ⟨m4,q1,q2⟩:=X5y ⟨TA (d + 6),18446744073709551616⟩ (pt b5 0 0) g2 s
            refine ⟨m4,?_,hfb.trans q2⟩
            unfold Q14
            have w3:IntKind.i64.wrap (((pre ++ [a,b]).length:Int) + 1)=(((pre ++ [a,b]).length + 1:Nat):Int):=by rw [IntWalk.i64_in _ (by simp; omega)]; omega
            simp only [Qz,X0,w3,h.sl.len,Qf,X8,Option.isSome_none]
            unfold Q1g
            simp only [Xb]
            split <;> exact q1
          | some r' =>
            have hL:X5a true (a :: b :: rest) q s=X5a true rest { q with r:=r' } s:=by unfold X5a; rw [if_pos rfl,if_pos rfl,X6e,hp]
            rw [hL]
            have h3:PS mW v ws b2 b5 m3 { q with r:=r' }:=h.fr5 c2 (c3 r' hp)
            obtain ⟨m4,q1,q2⟩:=Xm5 d s hl hw k rest (pre ++ [a,b]) m3 { q with r:=r' } true (by rw [he]; simp) (by simp at hk; omega) h3 { hq with r:=Xpn hq.r hp }
            exact ⟨m4,q1,hfb.trans q2⟩
      . rw [if_neg (by omega),short h2]
        unfold Q1g
        simp only [Xb]
        exact out
end Go.Ab.Sh

set_option maxRecDepth 100000
set_option linter.unusedSimpArgs false
set_option linter.unusedVariables false
namespace Go.Ab
open Go Go.Lib Go.Ab.Sh
def vrfW:Str:=[118,114,102]
def refW (ws:List Str) (s:Str):Option QN:=
  let k:=posG 0 kindsL (ws.getD 0 [])
  if k=0 then none
  else if k ≤ 3 then
    let n:=if k < 3 then 4 else 3
    if ws.length < n then none else
    let en:=if k < 3 then posG 0 endsL (ws.getD 3 []) else 0
    X5a (decide (k < 3→0 < en) && decide ((ws.length - n) % 2=0)) (ws.drop n) { q0 with kind:=k,dev:=ws.getD 1 [],ifc:=ws.getD 2 [],en:=en,r:=rlH } s
  else if k=4 then
    if ws.length ≠ 7 then none else
    match num 255 (ws.getD 3 []),hdrP (ws.getD 4 [] ++ [32] ++ ws.getD 5 [] ++ [32] ++ ws.getD 6 []) with
    | some h,some (a,m,b,n,p)=>finP true { q0 with kind:=4,dev:=ws.getD 1 [],ifc:=ws.getD 2 [],hops:=(h:Nat),a:=a,b:=b,p:=p,m:=m,n:=n } s
    | _,_=>none
  else if k ≤ 6 then
    if ws.length ≠ 2∧(ws.length ≠ 4∨ws.getD 2 [] ≠ vrfW) then none
    else if ws.length=4 then finP (Xy (ws.getD 3 [])) { q0 with kind:=k,dev:=ws.getD 1 [],vrf:=ws.getD 3 [] } s
    else finP true { q0 with kind:=k,dev:=ws.getD 1 [] } s
  else if ws.length ≠ 2 then none else match X2p (ws.getD 1 []) with | none=>none | some a=>finP true { q0 with kind:=7,ad:=a } s
theorem getD_at {ws:List Str} {i:Nat} (h:i < ws.length):ws[i]?=some (ws.getD i []):=by
  rw [List.getD_eq_getElem?_getD,List.getElem?_eq_getElem h]; rfl
theorem X68 {ws:List Str} (hw:∀ w ∈ ws,w.length ≤ 4194304) (i:Nat):(ws.getD i []).length ≤ 4194304:=by
  rw [List.getD_eq_getElem?_getD]
  cases h:ws[i]? with
  | none=>simp
  | some w=>exact hw w (List.mem_of_getElem? h)
end Go.Ab
namespace Go.Ab.Sh
open Go Go.Ab Go.Lib
variable {mW:Mem} {v:Value} {ws:List Str} {b2 b5:Nat} {m:Mem} {q:QN}
theorem PS.fb {mW v ws b2 b5 m m' q} (h:PS mW v ws b2 b5 m q) (f:Fr [b5] m m'):Fb b2 m m':=
  f.toFbW (by have:=h.w2; have:=h.w5; simp; omega) (by have:=h.w2; have:=h.fr.next; omega)
theorem Xni (d:Nat) (s:Str) (hl:ws.length ≤ 5000000) (hw:∀ w ∈ ws,w.length ≤ 4194304) (h:PS mW v ws b2 b5 m q) (hq:QOk q) (ok:Bool) (n:Nat) (hn:n ≤ ws.length) :
    ∃ m',Q22 ⟨TA (d + 6),18446744073709551616⟩ (.bool ok) v (I n) (pt b5 0 0) (sv s) (pt b2 0 0) m=some (qnV (X5a (ok && decide ((ws.length - n) % 2=0)) (ws.drop n) q s),m')∧Fb b2 m m':=by
  have hsp:ws=ws.take n ++ ws.drop n:=(List.take_append_drop n ws).symm
  have hln:(ws.take n).length=n:=by simp; omega
  have go:∀ c:Bool,∃ m',Q5g ⟨TA (d + 6),18446744073709551616⟩ (I n) v (.bool c) (pt b5 0 0) (sv s) (pt b2 0 0) m=some (qnV (X5a c (ws.drop n) q s),m')∧Fb b2 m m':=by
    intro c
    have:=Xm5 d s hl hw 18446744073709551616 (ws.drop n) (ws.take n) m q c hsp (by simp; omega) h hq
    rw [hln] at this
    exact this
  have w1:IntKind.i64.wrap ((ws.length:Int) - n)=((ws.length - n:Nat):Int):=by rw [IntWalk.i64_in _ (by omega)]; omega
  have w2:((ws.length - n:Nat):Int).tmod 2=(((ws.length - n) % 2:Nat):Int):=by rw [Int.tmod_eq_emod_of_nonneg (by omega)]; omega
  unfold Q22
  simp only [h.s.len,X0,Q9t,w1,Qhf _ _ _ _ 2 (by decide),w2,Qp]
  cases ok with
  | false =>
    rw [Xb,Bool.false_and]
    exact go false
  | true =>
    rw [Xd,Bool.true_and]
    have:decide ((((ws.length - n) % 2:Nat):Int)=0)=decide ((ws.length - n) % 2=0):=by
      by_cases h0:(ws.length - n) % 2=0
      . rw [decide_eq_true h0,decide_eq_true (by omega)]
      . rw [decide_eq_false h0,decide_eq_false (by omega)]
    rw [this]
    exact go _
theorem Xug:RlOk rlH:=⟨rfl,by decide,rfl,by decide,rfl,by decide,by decide,by decide,by decide⟩
theorem Xox:QOk q0:=⟨by decide,by decide,by decide,by decide,by decide,⟨rfl,by decide,rfl,by decide,rfl,by decide,by decide,by decide,by decide⟩,by decide,by decide,by decide,by decide,by decide,rfl,by decide⟩
theorem Xss (d:Nat) (s:Str) (hl:ws.length ≤ 5000000) (hw:∀ w ∈ ws,w.length ≤ 4194304) (k:Nat) (h1:1 ≤ k) (h3:k ≤ 3) (h:PS mW v ws b2 b5 m { q0 with kind:=k,r:=rlH }) :
    ∃ m',Q6b ⟨TA (d + 6),18446744073709551616⟩ (pt b5 0 0) v (pt b2 0 0) (.bool true) (sv s) m=some (qnV (if ws.length < (if k < 3 then 4 else 3) then none else
      X5a (decide (k < 3→0 < (if k < 3 then posG 0 endsL (ws.getD 3 []) else 0)) && decide ((ws.length - (if k < 3 then 4 else 3)) % 2=0)) (ws.drop (if k < 3 then 4 else 3)) { q0 with kind:=k,dev:=ws.getD 1 [],ifc:=ws.getD 2 [],en:=(if k < 3 then posG 0 endsL (ws.getD 3 []) else 0),r:=rlH } s),m')∧Fb b2 m m':=by
  have l0:=h.ld (o:=0 + 0) (x:=.int .u8 (k:Int)) rfl
  have d1:=X68 hw 1
  have d2:=X68 hw 2
  -- from the length's test on
  have nine:∀ n:Nat,n=(if k < 3 then 4 else 3)→∃ m',Q4a ⟨TA (d + 6),18446744073709551616⟩ v (I n) (pt b2 0 0) (pt b5 0 0) (.bool true) (sv s) m=some (qnV (if ws.length < n then none else
      X5a (decide (k < 3→0 < (if k < 3 then posG 0 endsL (ws.getD 3 []) else 0)) && decide ((ws.length - n) % 2=0)) (ws.drop n) { q0 with kind:=k,dev:=ws.getD 1 [],ifc:=ws.getD 2 [],en:=(if k < 3 then posG 0 endsL (ws.getD 3 []) else 0),r:=rlH } s),m')∧Fb b2 m m':=by
    intro n hn
    unfold Q4a
    simp only [h.s.len,X0,Qf,X8]
    by_cases hlt:ws.length < n
    . rw [if_pos hlt,if_pos (by omega)]
      exact Xbn h.g2
    . rw [if_neg hlt,if_neg (by omega)]
      have hn3:3 ≤ n:=by rw [hn]; split <;> omega
      obtain ⟨p1,a1,a2⟩:=h.at (getD_at (i:=1) (by omega))
      unfold Q83 Q84 Q85
      obtain ⟨m1,s1,h',f1⟩:=h.put { q0 with kind:=k,r:=rlH,dev:=ws.getD 1 [] } 1 1 (sv (ws.getD 1 [])) rfl rfl (by omega) rfl
      have s1:X7 1 (pt b5 (0 + 1) 0) (sv (ws.getD 1 [])) m=some m1:=s1
      obtain ⟨p2,b1,b2'⟩:=h'.at (getD_at (i:=2) (by omega))
      obtain ⟨m2,s2,h'',f2⟩:=h'.put { q0 with kind:=k,r:=rlH,dev:=ws.getD 1 [],ifc:=ws.getD 2 [] } 2 1 (sv (ws.getD 2 [])) rfl rfl (by omega) rfl
      have s2:X7 1 (pt b5 (0 + 2) 0) (sv (ws.getD 2 [])) m1=some m2:=s2
      have l0:=h''.ld (o:=0 + 0) (x:=.int .u8 (k:Int)) rfl
      have a1:X9 1 v (.int .i64 1)=some p1:=a1
      have b1:X9 1 v (.int .i64 2)=some p2:=b1
      simp only [a1,a2,X0,Xg,s1,Xe,b1,b2',s2,l0,Qf,X8]
      have F2:Fb b2 m m2:=(h.fb f1).trans (h'.fb f2)
      have hq2:QOk { q0 with kind:=k,r:=rlH,dev:=ws.getD 1 [],ifc:=ws.getD 2 [] }:={ Xox with kind:=by show k < 256; omega,dev:=d1,ifc:=d2,r:=Xug }
      by_cases k3:k < 3
      . rw [if_pos (by omega),if_pos k3]
        have hn4:4 ≤ n:=by rw [hn,if_pos k3]; omega
        obtain ⟨p3,c1,c2⟩:=h''.at (getD_at (i:=3) (by omega))
        have c1:X9 1 v (.int .i64 3)=some p3:=c1
        obtain ⟨vE,mE,y1,y2,y3⟩:=c_Endings (d + 5) m2
        have y1:TA (d + 6) Q1n [] m2=some (vE,mE):=y1
        have hE:=h''.frn y2
        obtain ⟨p4,e1,e2⟩:=hE.at (getD_at (i:=3) (by omega))
        have e1:X9 1 v (.int .i64 3)=some p4:=e1
        obtain rfl:p3=p4:=Option.some.inj (c1.symm.trans e1)
        have ca:TA (d + 6) Q3o [vE,sv (ws.getD 3 [])] mE=_:=c_at vE mE endsL (by decide) y3 (ws.getD 3 []) (d + 5)
        have hpos:=X4d endsL 0 (ws.getD 3 [])
        have hel:endsL.length=7:=rfl
        obtain ⟨m3,s3,h3',f3⟩:=hE.put { q0 with kind:=k,r:=rlH,dev:=ws.getD 1 [],ifc:=ws.getD 2 [],en:=posG 0 endsL (ws.getD 3 []) } 4 1 (.int .u8 ((posG 0 endsL (ws.getD 3 []):Nat):Int)) rfl rfl (by omega) rfl
        have s3:X7 1 (pt b5 (0 + 4) 0) (.int .u8 ((posG 0 endsL (ws.getD 3 []):Nat):Int)) mE=some m3:=s3
        have l4:=h3'.ld (o:=0 + 4) (x:=.int .u8 ((posG 0 endsL (ws.getD 3 []):Nat):Int)) rfl
        have hq3:QOk { q0 with kind:=k,r:=rlH,dev:=ws.getD 1 [],ifc:=ws.getD 2 [],en:=posG 0 endsL (ws.getD 3 []) }:={ hq2 with en:=by show posG 0 endsL (ws.getD 3 []) < 256; omega }
        simp only [c1,c2,X0,y1,X5,e2,X65,Bool.and_true,X18,ca,Xg,s3,Xe,Xd,l4,Q4s]
        have F3:Fb b2 m m3:=(F2.trans (y2.toFb (by have:=h''.w2; have:=h''.fr.next; omega))).trans (hE.fb f3)
        obtain ⟨m',r1,r2⟩:=Xni d s hl hw h3' hq3 (decide (k < 3→0 < posG 0 endsL (ws.getD 3 []))) n (by omega)
        refine ⟨m',?_,F3.trans r2⟩
        have:decide ((0:Int) < ((posG 0 endsL (ws.getD 3 []):Nat):Int))=decide (k < 3→0 < posG 0 endsL (ws.getD 3 [])):=by
          by_cases h0:0 < posG 0 endsL (ws.getD 3 [])
          . rw [decide_eq_true (by omega),decide_eq_true (fun _=>h0)]
          . rw [decide_eq_false (by omega),decide_eq_false (fun x=>h0 (x k3))]
        rw [this]
        exact r1
      . rw [if_neg (by omega),if_neg k3]
        obtain ⟨m',r1,r2⟩:=Xni d s hl hw h'' hq2 true n (by omega)
        refine ⟨m',?_,F2.trans r2⟩
        rw [decide_eq_true (fun x=>absurd x k3:k < 3→0 < 0)]
        exact r1
  unfold Q6b Q9j
  simp only [Xg,l0,X0,Qf,X8]
  by_cases k3:k < 3
  . rw [if_pos (by omega)]
    have:=nine 4 (by rw [if_pos k3])
    simp only [if_pos k3] at this ⊢
    exact this
  . rw [if_neg (by omega)]
    have:=nine 3 (by rw [if_neg k3])
    simp only [if_neg k3] at this ⊢
    exact this
end Go.Ab.Sh

set_option maxRecDepth 100000
set_option linter.unusedSimpArgs false
set_option linter.unusedVariables false
namespace Go.Ab.Sh
open Go Go.Ab Go.Lib
variable {mW:Mem} {v:Value} {ws:List Str} {b2 b5:Nat} {m:Mem} {q:QN}
theorem Xqz (o:Option Nat):optI o=I (match o with | some n=>(n:Int) | none=>-1):=by cases o <;> rfl
theorem Xsa (d:Nat) (s:Str) (hw:∀ w ∈ ws,w.length ≤ 4194304) (hT:ws.length=7→(ws.getD 4 [] ++ [32] ++ ws.getD 5 [] ++ [32] ++ ws.getD 6 []).length ≤ 4194304) (h:PS mW v ws b2 b5 m { q0 with kind:=4 }) :
    ∃ m',Q23 ⟨TA (d + 6),18446744073709551616⟩ (.bool true) v (pt b2 0 0) (pt b5 0 0) (sv s) (.bool true) m=some (qnV (if ws.length ≠ 7 then none else
    match num 255 (ws.getD 3 []),hdrP (ws.getD 4 [] ++ [32] ++ ws.getD 5 [] ++ [32] ++ ws.getD 6 []) with
    | some h,some (a,m,b,n,p)=>finP true { q0 with kind:=4,dev:=ws.getD 1 [],ifc:=ws.getD 2 [],hops:=(h:Nat),a:=a,b:=b,p:=p,m:=m,n:=n } s
    | _,_=>none),m')∧Fb b2 m m':=by
  unfold Q23
  simp only [Xd,h.s.len,X0,Q1o,X8]
  by_cases h7:ws.length=7
  . rw [if_neg (by omega),if_neg (by omega)]
    have gl:=fun i=>X68 hw i
    have g1:=gl 1
    have g2:=gl 2
    have g3:=gl 3
    have g4:=gl 4
    have g5:=gl 5
    have g6:=gl 6
    let z:Int:=match num 255 (ws.getD 3 []) with | some n=>(n:Int) | none=>-1
    obtain ⟨p1,a1,a2⟩:=h.at (getD_at (i:=1) (by omega))
    have a1:X9 1 v (.int .i64 1)=some p1:=a1
    obtain ⟨m1,s1,h1,f1⟩:=h.put { q0 with kind:=4,dev:=ws.getD 1 [] } 1 1 (sv (ws.getD 1 [])) rfl rfl (by omega) rfl
    have s1:X7 1 (pt b5 (0 + 1) 0) (sv (ws.getD 1 [])) m=some m1:=s1
    obtain ⟨p2,c1,c2⟩:=h1.at (getD_at (i:=2) (by omega))
    have c1:X9 1 v (.int .i64 2)=some p2:=c1
    obtain ⟨m2,s2,h2,f2⟩:=h1.put { q0 with kind:=4,dev:=ws.getD 1 [],ifc:=ws.getD 2 [] } 2 1 (sv (ws.getD 2 [])) rfl rfl (by omega) rfl
    have s2:X7 1 (pt b5 (0 + 2) 0) (sv (ws.getD 2 [])) m1=some m2:=s2
    obtain ⟨p3,d1,d2⟩:=h2.at (getD_at (i:=3) (by omega))
    have d1:X9 1 v (.int .i64 3)=some p3:=d1
    have cR:TA (d + 6) Q6 [sv (ws.getD 3 []),.int .i64 255] m2=_:=c_Read (ws.getD 3 []) (by omega) 255 (by omega) (d + 5) m2
    rw [Xqz] at cR
    have cR:TA (d + 6) Q6 [sv (ws.getD 3 []),.int .i64 255] m2=some (I z,m2):=cR
    obtain ⟨m3,s3,h3,f3⟩:=h2.put { q0 with kind:=4,dev:=ws.getD 1 [],ifc:=ws.getD 2 [],hops:=z } 20 1 (I z) rfl rfl (by omega) rfl
    have s3:X7 1 (pt b5 (0 + 20) 0) (I z) m2=some m3:=s3
    obtain ⟨p4,e1,e2⟩:=h3.at (getD_at (i:=4) (by omega))
    have e1:X9 1 v (.int .i64 4)=some p4:=e1
    obtain ⟨p5,k1,k2⟩:=h3.at (getD_at (i:=5) (by omega))
    have k1:X9 1 v (.int .i64 5)=some p5:=k1
    obtain ⟨p6,n1,n2⟩:=h3.at (getD_at (i:=6) (by omega))
    have n1:X9 1 v (.int .i64 6)=some p6:=n1
    have es:Value.string ⟨#[32]⟩=sv [32]:=rfl
    let T:=ws.getD 4 [] ++ [32] ++ ws.getD 5 [] ++ [32] ++ ws.getD 6 []
    have lT:T.length ≤ 4194304:=hT h7
    obtain ⟨hd,hhd⟩:∃ hd:Nat × Nat × Nat × Nat × Nat,hd=(hdrP T).getD (0,0,0,0,0):=⟨_,rfl⟩
    obtain ⟨a,mm,b,n,p⟩:=hd
    let H:=hdr a b p mm n
    let e:Int:=if (hdrP T).isSome=true then 0 else 4
    have hV:hdrV (hdrP T)=.tuple ⟨[H,I e]⟩:=by
      show hdrV (hdrP T)=.tuple ⟨[hdr a b p mm n,I (if (hdrP T).isSome=true then 0 else 4)]⟩
      cases hx:hdrP T with
      | none=>rw [hx] at hhd; cases hhd; rfl
      | some x=>rw [hx] at hhd; cases hhd; rfl
    have F3:Fb b2 m m3:=((h.fb f1).trans (h1.fb f2)).trans (h2.fb f3)
    obtain ⟨m4,t1,t2,t3,t4⟩:=X1f [] m3 (some (2 * Q3 + 1)) Q7 (v:=H) (n:=5) rfl rfl rfl
    have h4:=h3.frn t2
    have cH:TA (d + 6) Q4x [sv T] (m3.push (.cells Q7 0 0 false (some (2 * Q3 + 1))))=_:=c_refHeader T lT (d + 2) _
    rw [hV] at cH
    have ldh:X6 true 5 (pt m3.next 0 0) m4=some H:=Xk t4 (by show 5 ≤ 5; omega) rfl
    obtain ⟨m5,s5,h5,f5⟩:=h4.put { q0 with kind:=4,dev:=ws.getD 1 [],ifc:=ws.getD 2 [],hops:=z,a:=a,b:=b,p:=p,m:=mm,n:=n } 15 5 H rfl rfl (by omega) rfl
    have s5:X7 5 (pt b5 (0 + 15) 0) H m4=some m5:=s5
    have l20:=h5.ld (o:=0 + 20) (x:=I z) rfl
    have t1:X7 5 (pt m3.next 0 0) H (m3.push (.cells Q7 0 0 false (some (2 * Q3 + 1))))=some m4:=t1
    have F5:Fb b2 m m5:=(F3.trans (t2.toFb (by have:=h3.w2; have:=h3.fr.next; omega))).trans (h4.fb f5)
    simp only [a1,a2,X0,Xg,s1,Xe,c1,c2,s2,d1,d2,cR,X5,s3,e1,e2,k1,k2,n1,n2,es]
    simp only [X0,X5,k2,n2,
      Qg _ _ (ws.getD 4 []) [32] (by simp only [List.length_cons,List.length_nil]; omega),Qg _ _ (ws.getD 4 [] ++ [32]) (ws.getD 5 []) (by simp only [List.length_append,List.length_cons,List.length_nil]; omega),
      Qg _ _ (ws.getD 4 [] ++ [32] ++ ws.getD 5 []) [32] (by simp only [List.length_append,List.length_cons,List.length_nil]; omega),
      Qg _ _ (ws.getD 4 [] ++ [32] ++ ws.getD 5 [] ++ [32]) (ws.getD 6 []) (by simp only [List.length_append,List.length_cons,List.length_nil]; omega)]
    rw [Xh]
    rw [show ws.getD 4 [] ++ [32] ++ ws.getD 5 [] ++ [32] ++ ws.getD 6 []=T from rfl,cH]
    simp only [X5,ex0,ex1,X0,t1,Xe,ldh,s5,l20,Q5u,X8,Qp]
    have good:∀ hh aa,num 255 (ws.getD 3 [])=some hh→hdrP T=some aa→QOk { q0 with kind:=4,dev:=ws.getD 1 [],ifc:=ws.getD 2 [],hops:=z,a:=a,b:=b,p:=p,m:=mm,n:=n }:=by
      intro hh aa e1 e2
      rw [e2] at hhd
      have hhd:(a,mm,b,n,p)=aa:=hhd
      subst hhd
      have hb:=(hdrP_iff.mp e2).2
      have hz:z=(hh:Int):=by show (match num 255 (ws.getD 3 []) with | some n=>(n:Int) | none=>-1)=_; rw [e1]
      have hle:=(num_some.mp e1).2
      refine { Xox with kind:=by show 4 < 256; omega,dev:=by show (ws.getD 1 []).length ≤ _; omega,ifc:=by show (ws.getD 2 []).length ≤ _; omega,a:=hb.a,b:=hb.b,p:=hb.p,m:=hb.m,n:=hb.n,hops:=?_ }
      show X5j z=true
      rw [hz]
      exact X28 (by omega)
    cases hn:num 255 (ws.getD 3 []) with
    | none =>
      have hz:z=-1:=by show (match num 255 (ws.getD 3 []) with | some n=>(n:Int) | none=>-1)=_; rw [hn]
      rw [if_neg (by rw [hz]; decide)]
      obtain ⟨m',r1,r2⟩:=X5y ⟨TA (d + 6),18446744073709551616⟩ (pt b5 0 0) h5.g2 s
      exact ⟨m',r1,F5.trans r2⟩
    | some hh =>
      have hz:z=(hh:Int):=by show (match num 255 (ws.getD 3 []) with | some n=>(n:Int) | none=>-1)=_; rw [hn]
      rw [if_pos (by rw [hz]; omega)]
      cases hx:hdrP T with
      | none =>
        have he:e=4:=by show (if (hdrP T).isSome=true then (0:Int) else 4)=4; rw [hx]; rfl
        rw [he]
        obtain ⟨m',r1,r2⟩:=X5y ⟨TA (d + 6),18446744073709551616⟩ (pt b5 0 0) h5.g2 s
        exact ⟨m',r1,F5.trans r2⟩
      | some aa =>
        have he:e=0:=by show (if (hdrP T).isSome=true then (0:Int) else 4)=0; rw [hx]; rfl
        have hq:=good hh aa hn hx
        rw [hx] at hhd
        have hhd:(a,mm,b,n,p)=aa:=hhd
        subst hhd
        rw [he]
        obtain ⟨m',r1,r2⟩:=Xfy d h5 true (fun _=>hq) s
        rw [hz] at r1
        exact ⟨m',r1,F5.trans r2⟩
  . rw [if_pos (by omega),if_pos h7]
    exact Xbn h.g2
end Go.Ab.Sh

set_option maxRecDepth 100000
set_option linter.unusedSimpArgs false
set_option linter.unusedVariables false
namespace Go.Ab.Sh
open Go Go.Ab Go.Lib
variable {mW:Mem} {v:Value} {ws:List Str} {b2 b5:Nat} {m:Mem} {q:QN}
theorem Xhn (d:Nat) (s:Str) (hw:∀ w ∈ ws,w.length ≤ 4194304) (k:Nat) (hk:k=5∨k=6) (c:Bool) (hl:c=false→2 ≤ ws.length) (h:PS mW v ws b2 b5 m { q0 with kind:=k }) :
    ∃ m',Q24 ⟨TA (d + 6),18446744073709551616⟩ (.bool c) (pt b2 0 0) v (pt b5 0 0) (sv s) (.bool true) m=some (qnV (if c=true then none
    else if ws.length=4 then finP (Xy (ws.getD 3 [])) { q0 with kind:=k,dev:=ws.getD 1 [],vrf:=ws.getD 3 [] } s
    else finP true { q0 with kind:=k,dev:=ws.getD 1 [] } s),m')∧Fb b2 m m':=by
  unfold Q24
  cases c with
  | true =>
    rw [Xd,if_pos rfl]
    exact Xbn h.g2
  | false =>
    have hl:=hl rfl
    rw [Xb,if_neg (by decide)]
    have g1:=X68 hw 1
    have g3:=X68 hw 3
    obtain ⟨p1,a1,a2⟩:=h.at (getD_at (i:=1) (by omega))
    have a1:X9 1 v (.int .i64 1)=some p1:=a1
    obtain ⟨m1,s1,h1,f1⟩:=h.put { q0 with kind:=k,dev:=ws.getD 1 [] } 1 1 (sv (ws.getD 1 [])) rfl rfl (by omega) rfl
    have s1:X7 1 (pt b5 (0 + 1) 0) (sv (ws.getD 1 [])) m=some m1:=s1
    have hq1:QOk { q0 with kind:=k,dev:=ws.getD 1 [] }:={ Xox with kind:=by show k < 256; omega,dev:=g1 }
    simp only [a1,a2,X0,Xg,s1,Xe,h.s.len,Qp,X8]
    by_cases h4:ws.length=4
    . rw [if_pos (by omega),if_pos h4]
      obtain ⟨p3,c1,c2⟩:=h1.at (getD_at (i:=3) (by omega))
      have c1:X9 1 v (.int .i64 3)=some p3:=c1
      obtain ⟨m2,s2,h2,f2⟩:=h1.put { q0 with kind:=k,dev:=ws.getD 1 [],vrf:=ws.getD 3 [] } 3 1 (sv (ws.getD 3 [])) rfl rfl (by omega) rfl
      have s2:X7 1 (pt b5 (0 + 3) 0) (sv (ws.getD 3 [])) m1=some m2:=s2
      have l3:=h2.ld (o:=0 + 3) (x:=sv (ws.getD 3 [])) rfl
      have n1:TA (d + 6) Q13 [sv (ws.getD 3 [])] m2=_:=c_refName (ws.getD 3 []) g3 (d + 5) m2
      simp only [c1,c2,X0,s2,Xe,l3,n1,X5]
      obtain ⟨m',r1,r2⟩:=Xfy d h2 (Xy (ws.getD 3 [])) (fun _=>{ hq1 with vrf:=g3 }) s
      exact ⟨m',r1,((h.fb f1).trans (h1.fb f2)).trans r2⟩
    . rw [if_neg (by omega),if_neg h4]
      obtain ⟨m',r1,r2⟩:=Xfy d h1 true (fun _=>hq1) s
      exact ⟨m',r1,(h.fb f1).trans r2⟩
theorem Xsc (d:Nat) (s:Str) (hw:∀ w ∈ ws,w.length ≤ 4194304) (k:Nat) (hk:k=5∨k=6) (h:PS mW v ws b2 b5 m { q0 with kind:=k }) :
    ∃ m',Q15 ⟨TA (d + 6),18446744073709551616⟩ (.bool true) v (pt b2 0 0) (pt b5 0 0) (sv s) (.bool true) m=some (qnV (if ws.length ≠ 2∧(ws.length ≠ 4∨ws.getD 2 [] ≠ vrfW) then none
    else if ws.length=4 then finP (Xy (ws.getD 3 [])) { q0 with kind:=k,dev:=ws.getD 1 [],vrf:=ws.getD 3 [] } s
    else finP true { q0 with kind:=k,dev:=ws.getD 1 [] } s),m')∧Fb b2 m m':=by
  unfold Q15
  have ev:Value.string ⟨#[118,114,102]⟩=sv vrfW:=rfl
  simp only [Xd,h.s.len,X0,Q1o,X8,ev]
  by_cases h2:ws.length=2
  . rw [if_neg (by omega),if_neg (fun x=>x.1 h2)]
    exact Xhn d s hw k hk false (fun _=>by omega) h
  rw [if_pos (by omega)]
  by_cases h4:ws.length=4
  . rw [if_neg (by omega)]
    obtain ⟨p1,a1,a2⟩:=h.at (getD_at (i:=2) (by omega))
    have a1:X9 1 v (.int .i64 2)=some p1:=a1
    simp only [a1,a2,X0,Qf6]
    have:=Xhn d s hw k hk (decide (ws.getD 2 [] ≠ vrfW)) (fun _=>by omega) h
    by_cases hv:ws.getD 2 []=vrfW
    . rw [if_neg (fun x=>x.2.elim (fun y=>y h4) (fun y=>y hv))]
      rw [decide_eq_false (by simpa using hv)] at this ⊢
      exact this
    . rw [if_pos ⟨h2,.inr hv⟩]
      rw [decide_eq_true hv] at this ⊢
      exact this
  . rw [if_pos (by omega),if_pos ⟨h2,.inl h4⟩]
    exact Xhn d s hw k hk true (fun x=>by cases x) h
theorem Xr6 (d:Nat) (s:Str) (hw:∀ w ∈ ws,w.length ≤ 4194304) (h:PS mW v ws b2 b5 m { q0 with kind:=7 }) :
    ∃ m',Q15 ⟨TA (d + 6),18446744073709551616⟩ (.bool false) v (pt b2 0 0) (pt b5 0 0) (sv s) (.bool true) m=some (qnV (if ws.length ≠ 2 then none else match X2p (ws.getD 1 []) with | none=>none | some a=>finP true { q0 with kind:=7,ad:=a } s),m')∧Fb b2 m m':=by
  have l0:=h.ld (o:=0 + 0) (x:=.int .u8 ((7:Nat):Int)) rfl
  unfold Q15
  simp only [Xb,Xg,l0,X0,Qp,X8,h.s.len,Q1o]
  rw [if_pos (by decide)]
  by_cases h2:ws.length=2
  . rw [if_neg (by omega),if_neg (fun x=>x h2)]
    have g1:=X68 hw 1
    obtain ⟨p1,a1,a2⟩:=h.at (getD_at (i:=1) (by omega))
    have a1:X9 1 v (.int .i64 1)=some p1:=a1
    have cA:TA (d + 6) Q10 [sv (ws.getD 1 [])] m=_:=c_refAddr (ws.getD 1 []) g1 (d + 4) m
    cases ha:X2p (ws.getD 1 []) with
    | none =>
      rw [ha] at cA
      obtain ⟨m1,s1,h1,f1⟩:=h.put { q0 with kind:=7 } 21 1 (.int .u32 0) rfl rfl (by omega) rfl
      have s1:X7 1 (pt b5 (0 + 21) 0) (.int .u32 0) m=some m1:=s1
      simp only [a1,a2,X0,cA,X5,X3u,ex0,ex1,s1,Xe,Qp]
      obtain ⟨m',r1,r2⟩:=X5y ⟨TA (d + 6),18446744073709551616⟩ (pt b5 0 0) h1.g2 s
      exact ⟨m',r1,(h.fb f1).trans r2⟩
    | some a =>
      rw [ha] at cA
      obtain ⟨m1,s1,h1,f1⟩:=h.put { q0 with kind:=7,ad:=a } 21 1 (.int .u32 (a:Int)) rfl rfl (by omega) rfl
      have s1:X7 1 (pt b5 (0 + 21) 0) (.int .u32 (a:Int)) m=some m1:=s1
      simp only [a1,a2,X0,cA,X5,X3u,ex0,ex1,s1,Xe,Qp]
      obtain ⟨m',r1,r2⟩:=Xfy d h1 true (fun _=>{ Xox with kind:=by show 7 < 256; omega,ad:=addrP_lt ha }) s
      exact ⟨m',r1,(h.fb f1).trans r2⟩
  . rw [if_pos (by omega),if_pos h2]
    exact Xbn h.g2
theorem c_refParse (s:Str) (hs:s.length ≤ 4194304) (d:Nat) (m:Mem):TA (d + 7) Q25 [sv s] m=some (qnV (refW (split 32 s) s),m):=by
  rw [X6y]
  let M:=(X4 m m.next).push (.cells Q0 0 0 false tyQ)
  have g0:M.get m.next=some (.cells Q0 0 0 false tyQ):=Xl (X4 m m.next) _
  have F0:Fb m.next (X4 m m.next) M:=Fb.push _ (Nat.le_refl _)
  have nM:M.next=m.next + 1:=rfl
  have go:∃ m1,Q4b ⟨TA (d + 6),18446744073709551616⟩ (sv s) (pt m.next 0 0) M=some (qnV (refW (split 32 s) s),m1)∧Fb m.next M m1:=by
    obtain ⟨v,mW,w1,w2,w3,_⟩:=c_words s hs (d + 5) M
    have w1:TA (d + 6) Q4y [sv s] M=some (v,mW):=w1
    generalize hws:split 32 s=ws at *
    have hw:∀ w ∈ ws,w.length ≤ 4194304:=fun w hw=>by rw [← hws] at hw; have:=X2k 32 s w hw; omega
    have hl:ws.length ≤ 5000000:=by
      have:=X60 32 s.length s (Nat.le_refl _)
      have:=List.count_le_length (a:=(32:UInt8)) (l:=s)
      rw [← hws]; omega
    have hT:ws.length=7→(ws.getD 4 [] ++ [32] ++ ws.getD 5 [] ++ [32] ++ ws.getD 6 []).length ≤ 4194304:=by
      intro h7
      have hj:=(split_eq_iff.mp hws).2.1
      match ws,h7 with
      | [a,b,c,e,f,g,h],_ =>
        have hz:(Xw [32] [a,b,c,e,f,g,h])=a ++ ([32] ++ (b ++ ([32] ++ (c ++ ([32] ++ (e ++ ([32] ++ (f ++ ([32] ++ (g ++ ([32] ++ (h ++ [])))))))))))):=rfl
        rw [hj,hz] at hs
        simp only [List.length_append,List.length_cons,List.length_nil] at hs
        simp only [List.getD_cons_succ,List.getD_cons_zero,List.length_append,List.length_cons,List.length_nil]
        omega
    have hne:0 < ws.length:=by
      have:=X3f 32 s
      rw [hws] at this
      exact List.length_pos_iff.mpr this
    have gW:mW.get m.next=some (.cells Q0 0 0 false tyQ):=by rw [w2.get _ (by omega) (by simp)]; exact g0
    have nW:=w2.next
    have FW:Fb m.next M mW:=w2.toFb (by omega)
    obtain ⟨p0,a1,a2⟩:=w3.at (getD_at (i:=0) hne)
    have a1:X9 1 v (.int .i64 0)=some p0:=a1
    -- the question's variable
    let m1:=mW.push (.cells Q0 0 0 false tyQ)
    have f1:Fr [] mW m1:=Fr.push _
    obtain ⟨vK,mK,k1,k2,k3⟩:=c_Kinds (d + 5) m1
    have k1:TA (d + 6) Q1m [] m1=some (vK,mK):=k1
    have f2:Fr [] mW mK:=f1.trans k2
    have n1:m1.next=mW.next + 1:=rfl
    have nK:=k2.next
    obtain ⟨p0',e1,e2⟩:=(w3.fr f2 (by simp)).at (getD_at (i:=0) hne)
    have e1:X9 1 v (.int .i64 0)=some p0':=e1
    obtain rfl:p0=p0':=Option.some.inj (a1.symm.trans e1)
    have ca:TA (d + 6) Q3o [vK,sv (ws.getD 0 [])] mK=_:=c_at vK mK kindsL (by decide) k3 (ws.getD 0 []) (d + 5)
    have hpos:=X4d kindsL 0 (ws.getD 0 [])
    have hkl:kindsL.length=7:=rfl
    have hR:refW ws s=refW ws s:=rfl
    unfold refW at hR
    generalize hk:posG 0 kindsL (ws.getD 0 [])=k at *
    have gK:mK.get mW.next=some (.cells Q0 0 0 false tyQ):=by rw [k2.get _ (by omega) (by simp)]; exact Xl mW _
    obtain ⟨m3,s1,s2,s3,s4,s5⟩:=X2d (W:=[]) (o:=0) (n:=22) (cs':=qC { q0 with kind:=k }) f2 gK (qV { q0 with kind:=k }) rfl rfl (Nat.le_refl _) rfl (.inr (Nat.le_refl _))
    have h:PS mW v ws m.next mW.next m3 { q0 with kind:=k }:=⟨w3,s2,by rw [s5 _ (by omega),k2.get _ (by omega) (by simp),f1.get _ (by omega) (by simp)]; exact gW,s4,by omega,Nat.le_refl _,by omega⟩
    have F3:Fb m.next M m3:=FW.trans (s2.toFb (by omega))
    have l0:=h.ld (o:=0 + 0) (x:=.int .u8 (k:Int)) rfl
    have fin:∀ R,(∃ m',Q6c ⟨TA (d + 6),18446744073709551616⟩ (pt mW.next 0 0) v (pt m.next 0 0) (.bool (decide ((0:Int) < (k:Int)))) (sv s) m3=some (qnV R,m')∧Fb m.next m3 m')→∃ m1,Q4b ⟨TA (d + 6),18446744073709551616⟩ (sv s) (pt m.next 0 0) M=some (qnV R,m1)∧Fb m.next M m1:=by
      intro R hR
      obtain ⟨m',r1,r2⟩:=hR
      refine ⟨m',?_,F3.trans r2⟩
      unfold Q4b Q9k Q9l
      have k1:TA (d + 6) Q1m [] (mW.push (.cells Q0 0 0 false tyQ))=some (vK,mK):=k1
      simp only [w1,X5,a1,a2,X0]
      rw [Xh]
      simp only [k1,X5,e2,X65,Bool.and_true,X18,ca,aBqk,X0,s1,Xe,Xg,l0,Q4s]
      exact r1
    refine fin _ ?_
    unfold refW
    simp only [hk]
    unfold Q6c
    simp only [Xg,l0,X0,Q5u,Q7y,X8]
    by_cases k0:k=0
    . rw [if_pos k0,if_neg (by omega)]
      unfold Q2j Q23
      simp only [Xb,Xg,l0,X0,Qp,X8,decide_eq_false (by omega:¬ (k:Int)=4)]
      rw [if_neg (by omega),decide_eq_false (by omega:¬ (k:Int)=6)]
      unfold Q15
      simp only [Xb,Xg,l0,X0,Qp,X8]
      rw [if_neg (by omega),decide_eq_false (by omega:¬ (0:Int) < (k:Int))]
      exact X5y _ _ h.g2 s
    rw [if_neg k0,if_pos (by omega),decide_eq_true (by omega:(0:Int) < (k:Int))]
    by_cases kk3:k ≤ 3
    . rw [if_pos kk3,decide_eq_true (by omega:(k:Int) ≤ 3)]
      unfold Q2j
      rw [Xd]
      have aS:Xn Qc [(0,1),(1,1)] [(0,(.int .u32 0)),(1,(.int .u32 65535))]=some (Xz 0 65535):=Eq.trans rfl rfl
      have aR:Xn Q61 [(0,1),(1,1),(2,2),(4,2),(6,2),(8,2)] [(0,(.bool true)),(1,(.int .i64 (-1))),(4,Xz 0 65535),(5,Xz 0 65535)]=some (rlV rlH):=Eq.trans rfl rfl
      obtain ⟨m4,t1,h4,t3⟩:=h.put { q0 with kind:=k,r:=rlH } 5 10 (rlV rlH) rfl rfl (by omega) rfl
      have t1:X7 10 (pt mW.next (0 + 5) 0) (rlV rlH) m3=some m4:=t1
      simp only [aS,X0,aR,Xg,t1,Xe]
      obtain ⟨m',r1,r2⟩:=Xss d s hl hw k (by omega) kk3 h4
      exact ⟨m',r1,(h.fb t3).trans r2⟩
    rw [if_neg kk3,decide_eq_false (by omega:¬ (k:Int) ≤ 3)]
    unfold Q2j
    simp only [Xb,Xg,l0,X0,Qp]
    by_cases k4:k=4
    . subst k4
      rw [if_pos rfl,decide_eq_true (by decide:((4:Nat):Int)=4)]
      exact Xsa d s hw hT h
    rw [if_neg k4,decide_eq_false (by omega:¬ (k:Int)=4)]
    unfold Q23
    simp only [Xb,Xg,l0,X0,Qp,X8]
    by_cases k6:k ≤ 6
    . rw [if_pos k6]
      have h56:=Xsc d s hw k (by omega) h
      by_cases k5:k=5
      . rw [if_pos (by omega)]
        exact h56
      . rw [if_neg (by omega),decide_eq_true (by omega:(k:Int)=6)]
        exact h56
    . rw [if_neg k6,if_neg (by omega),decide_eq_false (by omega:¬ (k:Int)=6)]
      obtain rfl:k=7:=by omega
      exact Xr6 d s hw h
  obtain ⟨m1,k1,k2⟩:=go
  refine Xq (m1:=m1) ?_ (F0.trans k2) (Xjm _ _)
  unfold Q37
  rw [Xh]
  exact k1
end Go.Ab.Sh
