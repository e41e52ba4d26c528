/-
  What the functions of the program answer, at every text and every question. No conditions.
-/
import Derived.Test.YtbpkpklaegnkiaaGreatDoorA1
import GoSem.ClaimChange
import Derived.IntWalk
set_option linter.unusedSimpArgs false
set_option linter.unusedVariables false
set_option maxRecDepth 100000
namespace Go.Ab
open Go Go.Lib Go.Ab.Sh
abbrev plR:EqPl:=.struct [(0,1,false,.bool),(1,1,false,.int),(2,2,true,(.struct [(0,1,false,.int),(1,1,false,.int)])),(4,2,true,(.struct [(0,1,false,.int),(1,1,false,.int)])),(6,2,true,(.struct [(0,1,false,.int),(1,1,false,.int)])),(8,2,true,(.struct [(0,1,false,.int),(1,1,false,.int)]))]
abbrev plQ:EqPl:=.struct [(0,1,false,.int),(1,1,false,.str),(2,1,false,.str),(3,1,false,.str),(4,1,false,.int),(5,10,true,(.struct [(0,1,false,.bool),(1,1,false,.int),(2,2,true,(.struct [(0,1,false,.int),(1,1,false,.int)])),(4,2,true,(.struct [(0,1,false,.int),(1,1,false,.int)])),(6,2,true,(.struct [(0,1,false,.int),(1,1,false,.int)])),(8,2,true,(.struct [(0,1,false,.int),(1,1,false,.int)]))])),(15,5,true,(.struct [(0,1,false,.int),(1,1,false,.int),(2,1,false,.int),(3,1,false,.int),(4,1,false,.int)])),(20,1,false,.int),(21,1,false,.int)]
theorem X2k {off size:Nat} {agg:Bool} {p:EqPl} {fs:List (Nat × Nat × Bool × EqPl)} {xs ys:Array Value} {a b:Value} {c d:Prop} [Decidable c] [Decidable d] (h1:partOf agg size off xs=some a) (h2:partOf agg size off ys=some b) (h3:aEq p a b=some (decide c)) (h4:aEqs fs xs ys=some (decide d)):aEqs ((off,size,agg,p) :: fs) xs ys=some (decide (c∧d)):=by
 rw [aEqs,h1,h2]
 simp only [h3]
 by_cases hc:c
 ·rw [decide_eq_true hc]
  simp only [h4,Option.some.injEq]
  by_cases hd:d
  ·rw [decide_eq_true hd,decide_eq_true ⟨hc,hd⟩]
  ·rw [decide_eq_false hd,decide_eq_false (fun h=>hd h.2)]
 ·rw [decide_eq_false hc,decide_eq_false (fun h=>hc h.1)]
theorem Xoc (xs ys:Array Value):aEqs [] xs ys=some (decide True):=by rw [aEqs]; rfl
theorem X3t (k:IntKind) (a b:Int):aEq .int (.int k a) (.int k b)=some (decide (a=b)):=by
 rw [aEq,if_pos rfl]
 by_cases h:a=b <;> simp [h]
theorem Xmh (a b:Str):aEq .str (sv a) (sv b)=some (decide (a=b)):=by
 show aEq .str (.string ⟨⟨a⟩⟩) (.string ⟨⟨b⟩⟩)=_
 rw [aEq]
 by_cases h:a=b <;> simp [h]
theorem Xx0 (a b:Bool):aEq .bool (.bool a) (.bool b)=some (decide (a=b)):=by
 rw [aEq]
 by_cases h:a=b <;> simp [h]
theorem Xdi (k k':IntKind) (a b a' b':Int):aEq (.struct [(0,1,false,.int),(1,1,false,.int)]) (.agg ⟨[.int k a,.int k' b]⟩) (.agg ⟨[.int k a',.int k' b']⟩)=some (decide (a=a'∧b=b'∧True)):=by
 rw [aEq]
 exact X2k rfl rfl (X3t k a a') (X2k rfl rfl (X3t k' b b') (Xoc _ _))
theorem Xvc (r s:Rl):aEq plR (rlV r) (rlV s)=some (decide (r.permit=s.permit∧r.proto=s.proto∧((r.sa:Int)=(s.sa:Int)∧r.sb=s.sb∧True)∧((r.da:Int)=(s.da:Int)∧r.db=s.db∧True)∧((r.sl:Int)=(s.sl:Int)∧(r.sh:Int)=(s.sh:Int)∧True)∧((r.dl:Int)=(s.dl:Int)∧(r.dh:Int)=(s.dh:Int)∧True)∧True)):=by
 rw [aEq]
 exact X2k rfl rfl (Xx0 _ _) (X2k rfl rfl (X3t _ _ _) (X2k rfl rfl (Xdi _ _ _ _ _ _) (X2k rfl rfl (Xdi _ _ _ _ _ _) (X2k rfl rfl (Xdi _ _ _ _ _ _) (X2k rfl rfl (Xdi _ _ _ _ _ _) (Xoc _ _))))))
theorem Xyq (a b p m n a' b' p' m' n':Nat):aEq (.struct [(0,1,false,.int),(1,1,false,.int),(2,1,false,.int),(3,1,false,.int),(4,1,false,.int)]) (hdr a b p m n) (hdr a' b' p' m' n')=some (decide ((a:Int)=(a':Int)∧(b:Int)=(b':Int)∧(p:Int)=(p':Int)∧(m:Int)=(m':Int)∧(n:Int)=(n':Int)∧True)):=by
 rw [aEq]
 exact X2k rfl rfl (X3t _ _ _) (X2k rfl rfl (X3t _ _ _) (X2k rfl rfl (X3t _ _ _) (X2k rfl rfl (X3t _ _ _) (X2k rfl rfl (X3t _ _ _) (Xoc _ _)))))
theorem X11c (q s:QN):∃ b,aEq plQ (qV q) (qV s)=some b∧(b=true ↔ q=s):=by
 have h:aEq plQ (qV q) (qV s)=some (decide ((q.kind:Int)=(s.kind:Int)∧q.dev=s.dev∧q.ifc=s.ifc∧q.vrf=s.vrf∧(q.en:Int)=(s.en:Int)∧(q.r.permit=s.r.permit∧q.r.proto=s.r.proto∧((q.r.sa:Int)=(s.r.sa:Int)∧q.r.sb=s.r.sb∧True)∧((q.r.da:Int)=(s.r.da:Int)∧q.r.db=s.r.db∧True)∧((q.r.sl:Int)=(s.r.sl:Int)∧(q.r.sh:Int)=(s.r.sh:Int)∧True)∧((q.r.dl:Int)=(s.r.dl:Int)∧(q.r.dh:Int)=(s.r.dh:Int)∧True)∧True)∧((q.a:Int)=(s.a:Int)∧(q.b:Int)=(s.b:Int)∧(q.p:Int)=(s.p:Int)∧(q.m:Int)=(s.m:Int)∧(q.n:Int)=(s.n:Int)∧True)∧q.hops=s.hops∧(q.ad:Int)=(s.ad:Int)∧True)):=by
  rw [aEq]
  exact X2k rfl rfl (X3t _ _ _) (X2k rfl rfl (Xmh _ _) (X2k rfl rfl (Xmh _ _) (X2k rfl rfl (Xmh _ _) (X2k rfl rfl (X3t _ _ _) (X2k rfl rfl (Xvc q.r s.r) (X2k rfl rfl (Xyq q.a q.b q.p q.m q.n s.a s.b s.p s.m s.n) (X2k rfl rfl (X3t _ _ _) (X2k rfl rfl (X3t _ _ _) (Xoc _ _)))))))))
 refine ⟨_,h,?_⟩
 ·rw [decide_eq_true_eq]
  obtain ⟨k,dv,ic,vr,en,r,a,b,p,m,n,ho,ad⟩:=q
  obtain ⟨pm,pr,sa,sb,da,db,sl,sh,dl,dh⟩:=r
  obtain ⟨k',dv',ic',vr',en',r',a',b',p',m',n',ho',ad'⟩:=s
  obtain ⟨pm',pr',sa',sb',da',db',sl',sh',dl',dh'⟩:=r'
  simp only [QN.mk.injEq,Rl.mk.injEq,Int.natCast_inj,and_true]
  constructor
  ·rintro ⟨h1,h2,h3,h4,h5,⟨i1,i2,⟨i3,i4⟩,⟨i5,i6⟩,⟨i7,i8⟩,i9,i10⟩,⟨j1,j2,j3,j4,j5⟩,h8,h9⟩
   exact ⟨h1,h2,h3,h4,h5,⟨i1,i2,i3,i4,i5,i6,i7,i8,i9,i10⟩,j1,j2,j3,j4,j5,h8,h9⟩
  ·rintro ⟨h1,h2,h3,h4,h5,⟨i1,i2,i3,i4,i5,i6,i7,i8,i9,i10⟩,j1,j2,j3,j4,j5,h8,h9⟩
   exact ⟨h1,h2,h3,h4,h5,⟨i1,i2,⟨i3,i4⟩,⟨i5,i6⟩,⟨i7,i8⟩,i9,i10⟩,⟨j1,j2,j3,j4,j5⟩,h8,h9⟩
theorem Q1pf (q s:QN):∃ b:Bool,bin .eql false true plQ (qV q) (qV s)=some (.bool b)∧(b=true ↔ q=s):=by
 obtain ⟨b,h1,h2⟩:=X11c q s
 refine ⟨b,?_,h2⟩
 rw [X1c]
 show (if (true || Xeq (qV q)) && (false || notNil (qV q) (qV s)) then match aEq plQ (qV q) (qV s) with | some b=>some (Value.bool b) | none=>none else none)=_
 rw [h1]
 rfl
theorem Q1pg (q s:QN):∃ b:Bool,bin .neq false true plQ (qV q) (qV s)=some (.bool !b)∧(b=true ↔ q=s):=by
 obtain ⟨b,h1,h2⟩:=X11c q s
 refine ⟨b,?_,h2⟩
 rw [X1c]
 show (if (true || Xeq (qV q)) && (false || notNil (qV q) (qV s)) then match aEq plQ (qV q) (qV s) with | some b=>some (Value.bool !b) | none=>none else none)=_
 rw [h1]
 rfl
end Go.Ab

set_option maxRecDepth 100000
namespace Go.Ab.Sh
open Go Go.Ab Go.Lib
theorem Xlh (o:Option QN):qnV o=.tuple ⟨[qV (o.getD q0),I (if o.isSome=true then 0 else 4)]⟩:=by cases o <;> rfl
end Go.Ab.Sh

set_option maxRecDepth 100000
namespace Go.Ab
open Go Go.Lib Go.Ab.Sh
def X2i (ws:List Str) (n:Nat):Str:=if n < 1 then [] else if ws.length < n then [] else ws.getD (n - 1) []
end Go.Ab
namespace Go.Ab.Sh
open Go Go.Ab Go.Lib
theorem Xog (all:Str) (ws:List Str) (ha:(Nat.blt (⟨⟨all⟩⟩:ByteArray).size 4294967281 && X7o all)=true) (hf:X1x all=ws.map sv) (n:Nat) (hn:n < 256) (d:Nat) (m:Mem) :
  TA (d + 1) Q92 [sv all,.int .u8 (n:Int)] m=some (sv (X2i ws n),m):=by
 rw [Xi8]
 refine X2a (m1:=(X3 m m.next).push (.cells (ws.map sv) 0 0 false none)) ?_ (Fb.push _ (Nat.le_refl _)) rfl
 have hS:=Xts (X3 m m.next) ws none
 have w1:IntKind.i64.wrap (n:Int)=(n:Int):=by rw [IntWalk.i64_in _ (by omega)]
 have hn0:(X3 m m.next).next=m.next:=rfl
 unfold Qd6 Qqd Qqc Qip
 simp only [c_Fields all ha ws hf,X9,Q34,X7,Xj,Xh,c_int,w1,hS.len,Qwd]
 unfold X2i
 by_cases h1:n < 1
 ·rw [if_pos (by omega),if_pos h1]
  rfl
 ·rw [if_neg (by omega),if_neg h1]
  by_cases h2:ws.length < n
  ·rw [if_pos (by omega),if_pos h2]
   rfl
  ·rw [if_neg (by omega),if_neg h2]
   have w2:IntKind.u8.wrap ((n:Int) - 1)=((n - 1:Nat):Int):=by rw [IntWalk.u8_in _ (by omega)]; omega
   obtain ⟨p,p1,p2⟩:=hS.atk .u8 (getD_at (ws:=ws) (i:=n - 1) (by omega))
   simp only [Q14o,w2,X7,p1,p2]
theorem c_wordK (n:Nat) (hn:n < 256) (d:Nat) (m:Mem):TA (d + 1) Q92 [sv X6j,.int .u8 (n:Int)] m=some (sv (X2i kindsL n),m):=Xog X6j kindsL aK fK n hn d m
theorem c_wordE (n:Nat) (hn:n < 256) (d:Nat) (m:Mem):TA (d + 1) Q92 [sv Xdu,.int .u8 (n:Int)] m=some (sv (X2i endsL n),m):=Xog Xdu endsL aE fE n hn d m
end Go.Ab.Sh

set_option maxRecDepth 100000
namespace Go.Ab
open Go Go.Lib Go.Ab.Sh
theorem X11d {m:Mem} {b r:Nat} {c:List Value} {fro:Nat} {ro:Bool} {ty:Option Nat} {k:Nat} (hr:r / 2=0) (h:m.get b=some (.cells c 0 fro ro ty)) (hc:c.length=k):X1r 1 k (.slice (some ⟨b,0,some 1⟩) k r) m=some c:=by
 simp [X1r,Xv,X12,h,hc,hr]
 rw [← hc,List.take_length]
theorem X12l {m:Mem} {e bytes b b2 len ver fro2 k r:Nat} {c new:List Value} {ty ty2:Option Nat} {ro2:Bool} (hr:r / 2=0) (h:m.get b=some (.cells c ver 0 false ty)) (h2:m.get b2=some (.cells new 0 fro2 ro2 ty2)) (hn:new.length=k) (hk:k ≠ 0) (h1:new.all one=true)
  (hl:len ≤ c.length) (hb:fits (len + k) bytes=true) :
  ∃ m',apS e 1 bytes (.slice (some ⟨b,0,some 1⟩) len (2 * ver)) (.slice (some ⟨b2,0,some 1⟩) k r) m=some (.slice (some ⟨b,0,some 1⟩) (len + k) (2 * (ver + 1)),m') ∧
   MEq (m.put b (.cells (c.take len ++ new) (ver + 1) 0 false (tyOf ty (2 * e)))) m':=by
 have hO:X1w e 1 bytes (.slice (some ⟨b,0,some 1⟩) len (2 * ver)) (.slice (some ⟨b2,0,some 1⟩) k r) m =
   some (.slice (some ⟨b,0,some 1⟩) (len + k) (2 * (ver + 1)),m.put b (.cells (c.take len ++ new) (ver + 1) 0 false (tyOf ty (2 * e)))):=by
  unfold X1w
  have e1:2 * ver / 2=ver:=by omega
  have e2:¬ 2 * ver % 2=1:=by omega
  have e5:Nat.ble len c.length=true:=Nat.ble_eq.mpr hl
  have e6:Nat.ble 1 1=true:=rfl
  have e7:Nat.ble 0 len=true:=Nat.ble_eq.mpr (Nat.zero_le _)
  simp only [X2x,X11d hr h2 hn,h1,e6,Bool.and_self,Bool.not_true,Bool.false_eq_true,if_false,h,Nat.zero_add,e1,Nat.beq_refl,Nat.mul_one,e5,hb,beq_self_eq_true,e2,e7,Bool.not_false,if_true,hk]
 have hx:∃ p,X3c e 1 bytes (.slice (some ⟨b,0,some 1⟩) len (2 * ver)) (.slice (some ⟨b2,0,some 1⟩) k r) m=some p:=by
  unfold X3c
  have e1:Nat.div (2 * ver) 2=ver:=by show 2 * ver / 2=ver; omega
  have e2:(Nat.beq k 0 || Nat.beq (2 * ver % 2) 1)=false:=by
   have h2:2 * ver % 2=0:=by omega
   have h3:Nat.beq k 0=false:=by
    cases k with
    | zero=>exact absurd rfl hk
    | succ k=>rfl
   rw [h2,h3]; rfl
  have e6:Nat.ble 1 1=true:=rfl
  rw [Mem.get_def] at h
  cases hrr:m.tr.get (b + 1) with
  | none=>rw [hrr] at h; cases h
  | some rr =>
   rw [hrr] at h
   simp only [Option.map_some,Option.some.injEq] at h
   obtain ⟨r',kk⟩:=Xir (new:=new) (ty2:=2 * e) h (Nat.zero_le _) hl
   simp only [X2x,e2,X11d hr h2 hn,X33,h1,e6,Bool.and_self,Nat.succ_eq_add_one,hrr,e1,X14,decide_true,hb,Nat.zero_add,Nat.mul_one,kk]
   exact ⟨_,rfl⟩
 obtain ⟨⟨v,m'⟩,hx⟩:=hx
 obtain ⟨m2,k1,k2⟩:=X7w hx
 rw [hO] at k1
 cases k1
 exact ⟨m',Xn4 hx,k2⟩
end Go.Ab

set_option maxRecDepth 100000
namespace Go.Ab.Sh
open Go Go.Ab Go.Lib
structure TS (m:Mem) (bV b:Nat) (ws:List Str):Prop where
 g:∃ ver ty,m.get bV=some (.cells [.slice (some ⟨b,0,some 1⟩) ws.length (2 * ver)] 0 0 false tyR)∧m.get b=some (.cells (ws.map sv) ver 0 false ty)
 nV:bV < m.next
 nb:b < m.next
 ne:bV ≠ b
theorem Xza (xs:List Str):(xs.map sv).all one=true:=by
 induction xs with
 | nil=>rfl
 | cons x xs ih =>
  rw [List.map_cons,List.all_cons,ih]
  rfl
theorem c_put {m:Mem} {bV b b2:Nat} {ws xs:List Str} {ty2:Option Nat} (h:TS m bV b ws) (hx:m.get b2=some (.cells (xs.map sv) 0 0 false ty2)) (hk:xs ≠ []) (hl:ws.length + xs.length ≤ 1000) (is:Bool) (d:Nat) :
  ∃ m',TA (d + 1) Q91 [.bool is,.slice (some ⟨b2,0,some 1⟩) xs.length 1,pt bV 0 0] m=some (.tuple ⟨[]⟩,m')∧Fr [bV,b] m m'∧TS m' bV b (if is=true then ws ++ xs else ws):=by
 have go:∃ m1,Q3p ⟨TA d,18446744073709551616⟩ (.bool is) (pt bV 0 0) (.slice (some ⟨b2,0,some 1⟩) xs.length 1) (X3 m m.next)=some (.tuple ⟨[]⟩,m1)∧Fr [bV,b] (X3 m m.next) m1∧TS m1 bV b (if is=true then ws ++ xs else ws):=by
  have k:TS (X3 m m.next) bV b ws:={ h with }
  have hx:(X3 m m.next).get b2=some (.cells (xs.map sv) 0 0 false ty2):=hx
  generalize X3 m m.next=m0 at k hx
  unfold Q3p
  cases is with
  | false =>
   rw [Xd,if_neg (by decide)]
   exact ⟨m0,rfl,.refl _ _,k⟩
  | true =>
   rw [Xh,if_pos rfl]
   obtain ⟨ver,ty,g1,g2⟩:=k.g
   have ld:X4 false 1 (pt bV 0 0) m0=some (.slice (some ⟨b,0,some 1⟩) ws.length (2 * ver)):=Xt g1 rfl
   have hlen:xs.length ≠ 0:=fun e=>hk (List.length_eq_zero_iff.mp e)
   have hfit:fits (ws.length + xs.length) 16=true:=by
    simp only [fits,Bool.and_eq_true,Nat.ble_eq]; omega
   obtain ⟨m1,a1,a2⟩:=X12l (e:=Q6) (bytes:=16) (len:=ws.length) (k:=xs.length) (r:=1) (by decide) g2 hx (by simp) hlen (Xza xs) (by simp) hfit
   have F1:Fr [bV,b] m0 m1:=((Fr.refl _ m0).put _ (.inl (by simp))).meq a2
   have gV1:m1.get bV=some (.cells [.slice (some ⟨b,0,some 1⟩) ws.length (2 * ver)] 0 0 false tyR):=by
    rw [a2.get,Mem.get_put,if_neg (fun e=>k.ne e.symm)]; exact g1
   obtain ⟨m2,s1,s2,s3,s4,s5⟩:=X5x (o:=0) (n:=1) (cs':=[.slice (some ⟨b,0,some 1⟩) (ws.length + xs.length) (2 * (ver + 1))]) F1 gV1 (.slice (some ⟨b,0,some 1⟩) (ws.length + xs.length) (2 * (ver + 1))) rfl rfl (by show 1 ≤ 1; omega) rfl (.inl (by simp))
   refine ⟨m2,?_,s2,⟨⟨ver + 1,tyOf ty (2 * Q6),?_,?_⟩,Nat.lt_of_lt_of_le k.nV s2.next,Nat.lt_of_lt_of_le k.nb s2.next,k.ne⟩⟩
   ·rw [ld,X7,a1,X9,s1,Xg]
   ·rw [s4,List.length_append]
   ·rw [s5 _ (fun e=>k.ne e.symm),a2.get,Mem.get_put,if_pos rfl]
    congr 2
    rw [List.map_append,List.take_of_length_le (by simp)]
 obtain ⟨m1,k1,k2,k3⟩:=go
 rw [Xb2]
 obtain ⟨m2,q1,q2,_,q4⟩:=Xda (m:=m) k1 k2
 obtain ⟨ver,ty,g1,g2⟩:=k3.g
 exact ⟨m2,q1,q2,⟨ver,ty,by rw [q4 _ h.nV]; exact g1,by rw [q4 _ h.nb]; exact g2⟩,Nat.lt_of_lt_of_le h.nV q2.next,Nat.lt_of_lt_of_le h.nb q2.next,h.ne⟩
end Go.Ab.Sh

set_option maxRecDepth 100000
namespace Go.Ab.Sh
open Go Go.Ab Go.Lib
theorem Xr2 {W:List Nat} {m m1:Mem} {v:Value} {x:Option Rs} (hx:x=some (v,m1)) (hF:Fr W (X3 m m.next) m1) (hlow:m1.low < m.next) :
  ∃ m2,outOf m x=some (v,m2)∧Fr W m m2∧m2.next=m1.next∧∀ b,m2.get b=m1.get b:=by
 have hb:Nat.ble m.next m1.low=false:=by
  cases h:Nat.ble m.next m1.low with
  | false=>rfl
  | true=>have:=Nat.le_of_ble_eq_true h; omega
 have hg:gc m v m1=(v,X3 m1 (min m.low m1.low)):=by
  rw [Xpz]; unfold gcO
  rw [hb]
  rfl
 refine ⟨X3 m1 (min m.low m1.low),by rw [hx]; simp only [outOf,hg],⟨hF.next,Nat.min_le_left _ _,fun x h1 h2 h3=>?_,hF.get,fun b hb=>?_⟩,rfl,fun b=>rfl⟩
 ·have:=hF.low2 x h2 h2 h3
  show x ≤ min m.low m1.low
  omega
 ·rcases hF.lo b hb with q | q
  ·exact .inl (Nat.le_trans (Nat.min_le_right _ _) q)
  ·exact .inr q
theorem c_put0 {m:Mem} {bV b2:Nat} {w:Str} {ty2:Option Nat} (gV:m.get bV=some (.cells [.slice none 0 0] 0 0 false tyR)) (nV:bV < m.next) (hx:m.get b2=some (.cells [sv w] 0 0 false ty2)) (d:Nat) :
  ∃ m',TA (d + 1) Q91 [.bool true,.slice (some ⟨b2,0,some 1⟩) 1 1,pt bV 0 0] m=some (.tuple ⟨[]⟩,m')∧Fr [bV] m m'∧TS m' bV m.next [w]:=by
 have go:∃ m1,Q3p ⟨TA d,18446744073709551616⟩ (.bool true) (pt bV 0 0) (.slice (some ⟨b2,0,some 1⟩) 1 1) (X3 m m.next)=some (.tuple ⟨[]⟩,m1)∧Fr [bV] (X3 m m.next) m1∧TS m1 bV m.next [w]∧m1.low < m.next:=by
  have gV:(X3 m m.next).get bV=some (.cells [.slice none 0 0] 0 0 false tyR):=gV
  have nV:bV < (X3 m m.next).next:=nV
  have hx:(X3 m m.next).get b2=some (.cells [sv w] 0 0 false ty2):=hx
  show ∃ m1,Q3p ⟨TA d,18446744073709551616⟩ (.bool true) (pt bV 0 0) (.slice (some ⟨b2,0,some 1⟩) 1 1) (X3 m m.next)=some (.tuple ⟨[]⟩,m1)∧Fr [bV] (X3 m m.next) m1∧TS m1 bV (X3 m m.next).next [w]∧m1.low < (X3 m m.next).next
  generalize X3 m m.next=m0 at gV nV hx
  have ld:X4 false 1 (pt bV 0 0) m0=some (.slice none 0 0):=Xt gV rfl
  have ha:=Xfy (e:=Q6) (bytes:=16) (size:=1) hx rfl rfl (Nat.le_refl 1) rfl
  have F1:Fr [bV] m0 (m0.push (.cells [sv w] 0 0 false (some (2 * Q6)))):=Fr.push _
  have gV1:(m0.push (.cells [sv w] 0 0 false (some (2 * Q6)))).get bV=some (.cells [.slice none 0 0] 0 0 false tyR):=by
   rw [Mem.get_push,if_neg (by omega)]; exact gV
  obtain ⟨m2,s1,s2,s3,s4,s5⟩:=X5x (o:=0) (n:=1) (cs':=[.slice (some ⟨m0.next,0,some 1⟩) 1 0]) F1 gV1 (.slice (some ⟨m0.next,0,some 1⟩) 1 0) rfl rfl (by show 1 ≤ 1; omega) rfl (.inl (by simp))
  have n2:m2.next=m0.next + 1:=s3
  refine ⟨m2,?_,s2,⟨⟨0,some (2 * Q6),s4,?_⟩,by omega,by omega,by omega⟩,?_⟩
  ·unfold Q3p
   rw [Xh,ld,X7,ha,X9,s1,Xg]
  ·rw [s5 _ (by omega)]
   exact X1e m0 _
  ·rcases s2.lo bV nV with e | e
   ·omega
   ·rw [s4,gV] at e
    simp at e
 obtain ⟨m1,k1,k2,k3,k4⟩:=go
 rw [Xb2]
 obtain ⟨m2,q1,q2,q3,q4⟩:=Xr2 (m:=m) k1 k2 k4
 obtain ⟨ver,ty,g1,g2⟩:=k3.g
 exact ⟨m2,q1,q2,⟨ver,ty,by rw [q4]; exact g1,by rw [q4]; exact g2⟩,by rw [q3]; exact k3.nV,by rw [q3]; exact k3.nb,k3.ne⟩
end Go.Ab.Sh

set_option maxRecDepth 100000
namespace Go.Ab.Sh
open Go Go.Ab Go.Lib
noncomputable abbrev fPut (bV:Nat):Value:=.func (.func Q91) ⟨[]⟩ ⟨[pt bV 0 0]⟩
theorem TS.frn {m m':Mem} {bV b:Nat} {ws:List Str} (h:TS m bV b ws) (f:Fr [] m m'):TS m' bV b ws:=by
 obtain ⟨ver,ty,g1,g2⟩:=h.g
 exact ⟨⟨ver,ty,by rw [f.get _ h.nV (by simp)]; exact g1,by rw [f.get _ h.nb (by simp)]; exact g2⟩,Nat.lt_of_lt_of_le h.nV f.next,Nat.lt_of_lt_of_le h.nb f.next,h.ne⟩
theorem TS.put1 {m:Mem} {bV b:Nat} {ws:List Str} (h:TS m bV b ws) (hl:ws.length ≤ 900) (x:Str) (is:Bool) (d:Nat) :
  ∃ m1 m',Xc Q6 [(.string ⟨#[]⟩)] 1 1 [(0,sv x)] m=some (.slice (some ⟨m.next,0,some 1⟩) 1 1,m1)∧Xi (TA (d + 1)) (fPut bV) [.bool is,.slice (some ⟨m.next,0,some 1⟩) 1 1] m1=some (.tuple ⟨[]⟩,m')∧Fr [bV,b] m m'∧TS m' bV b (if is=true then ws ++ [x] else ws):=by
 have hb:Xc Q6 [(.string ⟨#[]⟩)] 1 1 [(0,sv x)] m=some (.slice (some ⟨m.next,0,some 1⟩) 1 1,m.push (.cells [sv x] 0 0 false (some (2 * Q6)))):=Eq.trans rfl rfl
 obtain ⟨m',k1,k2,k3⟩:=c_put (xs:=[x]) (h.frn (Fr.push _)) (X1e m (.cells [sv x] 0 0 false (some (2 * Q6)))) (by simp) (by simp; omega) is d
 exact ⟨_,m',hb,k1,(Fr.push _).trans k2,k3⟩
theorem TS.put2 {m:Mem} {bV b:Nat} {ws:List Str} (h:TS m bV b ws) (hl:ws.length ≤ 900) (x y:Str) (is:Bool) (d:Nat) :
  ∃ m1 m',Xc Q6 [(.string ⟨#[]⟩)] 1 2 [(0,sv x),(1,sv y)] m=some (.slice (some ⟨m.next,0,some 1⟩) 2 1,m1)∧Xi (TA (d + 1)) (fPut bV) [.bool is,.slice (some ⟨m.next,0,some 1⟩) 2 1] m1=some (.tuple ⟨[]⟩,m')∧Fr [bV,b] m m'∧TS m' bV b (if is=true then ws ++ [x,y] else ws):=by
 have hb:Xc Q6 [(.string ⟨#[]⟩)] 1 2 [(0,sv x),(1,sv y)] m=some (.slice (some ⟨m.next,0,some 1⟩) 2 1,m.push (.cells [sv x,sv y] 0 0 false (some (2 * Q6)))):=Eq.trans rfl rfl
 obtain ⟨m',k1,k2,k3⟩:=c_put (xs:=[x,y]) (h.frn (Fr.push _)) (X1e m (.cells [sv x,sv y] 0 0 false (some (2 * Q6)))) (by simp) (by simp; omega) is d
 exact ⟨_,m',hb,k1,(Fr.push _).trans k2,k3⟩
theorem put0 {m:Mem} {bV:Nat} (gV:m.get bV=some (.cells [.slice none 0 0] 0 0 false tyR)) (nV:bV < m.next) (x:Str) (d:Nat) :
  ∃ m1 m',Xc Q6 [(.string ⟨#[]⟩)] 1 1 [(0,sv x)] m=some (.slice (some ⟨m.next,0,some 1⟩) 1 1,m1)∧Xi (TA (d + 1)) (fPut bV) [.bool true,.slice (some ⟨m.next,0,some 1⟩) 1 1] m1=some (.tuple ⟨[]⟩,m')∧Fr [bV] m m'∧TS m' bV (m.next + 1) [x]:=by
 have hb:Xc Q6 [(.string ⟨#[]⟩)] 1 1 [(0,sv x)] m=some (.slice (some ⟨m.next,0,some 1⟩) 1 1,m.push (.cells [sv x] 0 0 false (some (2 * Q6)))):=Eq.trans rfl rfl
 obtain ⟨m',k1,k2,k3⟩:=c_put0 (m:=m.push (.cells [sv x] 0 0 false (some (2 * Q6)))) (bV:=bV) (b2:=m.next) (w:=x) (by rw [Mem.get_push,if_neg (by omega)]; exact gV) (by show bV < m.next + 1; omega) (X1e m _) d
 exact ⟨_,m',hb,k1,(Fr.push _).trans k2,k3⟩
end Go.Ab.Sh

set_option maxRecDepth 100000
namespace Go.Ab.Sh
open Go Go.Ab Go.Lib
theorem TS.sl {m:Mem} {bV b:Nat} {ws:List Str} (h:TS m bV b ws):∃ v,X4 false 1 (pt bV 0 0) m=some v∧SL m v ws:=by
 obtain ⟨ver,ty,g1,g2⟩:=h.g
 refine ⟨_,Xt g1 rfl,b,0,2 * ver,ws.map sv,0,false,ty,rfl,h.nb,?_,by simp,fun i w hw=>by rw [Nat.zero_add,List.getElem?_map,hw]; rfl⟩
 rw [show 2 * ver / 2=ver by omega]; exact g2
noncomputable def txtV (T:Str) (q:QN):Value:=open Classical in if askW (split 32 T)=some q then .tuple ⟨[sv T,I 0]⟩ else .tuple ⟨[sv [],I 1]⟩
theorem X125 {m:Mem} {bV b b1:Nat} {ws:List Str} {q:QN} (h:TS m bV b ws) (gq:m.get b1=some (.cells (qC q) 0 0 false tyA)) (n1:b1 < m.next) (hw:ws.length ≤ 1000) (hT:(Xz [32] ws).length ≤ 4194304) (d:Nat) :
  ∃ m',Ql5 ⟨TA (d + 7),18446744073709551616⟩ (pt bV 0 0) (pt b1 0 0) m=some (txtV (Xz [32] ws) q,m')∧Fr [] m m':=by
 obtain ⟨v,ld,hS⟩:=h.sl
 have es:Value.string ⟨#[32]⟩=sv [32]:=rfl
 have cJ:TA (d + 7) Q2s [v,sv [32]] m=_:=c_Join v ws [32] m hS (by omega) (by omega) (d + 7)
 generalize Xz [32] ws=T at *
 have cp:TA (d + 7) Q6n [sv T] m=_:=c_askParse T hT d m
 obtain ⟨o,ho⟩:∃ o,o=askW (split 32 T):=⟨_,rfl⟩
 rw [← ho,Xlh] at cp
 obtain ⟨m2,s1,s2,s3,s4⟩:=X16 [] m tyA Qc (v:=qV (o.getD q0)) (n:=22) rfl rfl rfl
 have s1:X8 22 (pt m.next 0 0) (qV (o.getD q0)) (m.push (.cells Qc 0 0 false (some (2 * Qy + 1))))=some m2:=s1
 have l1:X4 true 22 (pt m.next 0 0) m2=some (qV (o.getD q0)):=X10 s4 (by show 22 ≤ 22; omega) rfl
 have l2:X4 true 22 (pt b1 0 0) m2=some (qV q):=X10 (by rw [s2.get _ n1 (by simp)]; exact gq) (by show 22 ≤ 22; omega) rfl
 obtain ⟨c,hc1,hc2⟩:=Q1pg (o.getD q0) q
 refine ⟨m2,?_,s2⟩
 have hV:txtV T q=if o.isSome=true∧c=true then .tuple ⟨[sv T,I 0]⟩ else .tuple ⟨[sv [],I 1]⟩:=by
  unfold txtV
  rw [← ho]
  have e:(o=some q) ↔ (o.isSome=true∧c=true):=by
   rw [hc2]
   cases o with
   | none=>simp
   | some x=>simp
  by_cases hh:o=some q
  ·rw [if_pos hh,if_pos (e.mp hh)]
  ·rw [if_neg hh,if_neg (fun x=>hh (e.mpr x))]
 rw [hV]
 unfold Ql5 Qs6
 simp only [ld,X7,es,cJ,X9,cp,ex0,ex1]
 rw [X13]
 unfold Qs5 Ql4
 rw [s1,Xg,Q8k,X7,Xj]
 cases hs:o.isSome with
 | true =>
  rw [if_neg (by decide),l1,X7,l2,X7,hc1,X7]
  cases c with
  | true=>rw [if_pos ⟨rfl,rfl⟩]; rfl
  | false=>rw [if_neg (by simp)]; rfl
 | false =>
  rw [if_pos (by decide),if_neg (by simp)]
  rfl
end Go.Ab.Sh

set_option maxRecDepth 100000
namespace Go.Ab.Sh
open Go Go.Ab Go.Lib
structure TQ (m:Mem) (bV b b1:Nat) (ws:List Str) (q:QN):Prop where
 t:TS m bV b ws
 gq:m.get b1=some (.cells (qC q) 0 0 false tyA)
 n1:b1 < m.next
 e1:b1 ≠ bV
 e2:b1 ≠ b
variable {m:Mem} {bV b b1:Nat} {ws:List Str} {q:QN}
theorem TQ.ld (h:TQ m bV b b1 ws q) {o:Nat} {x:Value} (hx:(qC q)[o]?=some x):X4 false 1 (pt b1 o 0) m=some x:=Xt h.gq hx
theorem TQ.step {m':Mem} {ws':List Str} (h:TQ m bV b b1 ws q) (f:Fr [bV,b] m m') (t:TS m' bV b ws'):TQ m' bV b b1 ws' q:=
 ⟨t,by rw [f.get _ h.n1 (by simp; exact ⟨h.e1,h.e2⟩)]; exact h.gq,Nat.lt_of_lt_of_le h.n1 f.next,h.e1,h.e2⟩
theorem TQ.frn {m':Mem} (h:TQ m bV b b1 ws q) (f:Fr [] m m'):TQ m' bV b b1 ws q:=h.step (f.mono (by simp)) (h.t.frn f)
def Xu (c:Bool) (ws xs:List Str):List Str:=if c=true then ws ++ xs else ws
theorem X10z (h:TQ m bV b b1 ws q) (ha:q.ad < 4294967296) (hw:ws.length ≤ 900) (hT:∀ c,(Xz [32] (Xu c ws [X1z q.ad])).length ≤ 4194304) (d:Nat) :
  ∃ m',Q7q ⟨TA (d + 7),18446744073709551616⟩ (fPut bV) (pt b1 0 0) (pt bV 0 0) m=some (txtV (Xz [32] (Xu (decide (q.kind=7)) ws [X1z q.ad])) q,m')∧Fr [bV,b] m m':=by
 have x0:=h.ld (o:=0 + 0) (x:=.int .u8 (q.kind:Int)) rfl
 have x21:=h.ld (o:=0 + 21) (x:=.int .u32 (q.ad:Int)) rfl
 have ct:TA (d + 7) Q6p [.int .u32 (q.ad:Int)] m=_:=c_addrText q.ad ha (d + 6) m
 have hk:decide ((q.kind:Int)=7)=decide (q.kind=7):=by
  by_cases e:q.kind=7
  ·rw [decide_eq_true e,decide_eq_true (by omega)]
  ·rw [decide_eq_false e,decide_eq_false (by omega)]
 obtain ⟨m1,m2,p1,p2,p3,p4⟩:=h.t.put1 hw (X1z q.ad) (decide (q.kind=7)) (d + 6)
 have h2:=h.step p3 p4
 obtain ⟨m3,r1,r2⟩:=X125 h2.t h2.gq h2.n1 (by split <;> (try simp only [List.length_append,List.length_cons,List.length_nil]) <;> omega) (hT (decide (q.kind=7))) d
 refine ⟨m3,?_,p3.trans (r2.mono (by simp))⟩
 unfold Q7q
 simp only [Xy,x0,x21,X7,Q5z,ct,X9,X3p,Bool.and_true,X2h,hk,p1,p2]
 exact r1
theorem X112 (h:TQ m bV b b1 ws q) (ha:q.ad < 4294967296) (hw:ws.length ≤ 800) (hT:∀ c c',(Xz [32] (Xu c' (Xu c ws [vrfW,q.vrf]) [X1z q.ad])).length ≤ 4194304) (d:Nat) :
  ∃ m',Ql6 ⟨TA (d + 7),18446744073709551616⟩ (fPut bV) (pt b1 0 0) (pt bV 0 0) m=some (txtV (Xz [32] (Xu (decide (q.kind=7)) (Xu (decide ((q.kind=5∨q.kind=6)∧q.vrf ≠ [])) ws [vrfW,q.vrf]) [X1z q.ad])) q,m')∧Fr [bV,b] m m':=by
 have x0:=h.ld (o:=0 + 0) (x:=.int .u8 (q.kind:Int)) rfl
 have x3:=h.ld (o:=0 + 3) (x:=sv q.vrf) rfl
 have ez:Value.string ⟨#[]⟩=sv []:=rfl
 have ev:Value.string ⟨#[118,114,102]⟩=sv vrfW:=rfl
 have go:∀ c:Bool,∃ m1 m2 m',Xc Q6 [(.string ⟨#[]⟩)] 1 2 [(0,sv vrfW),(1,sv q.vrf)] m=some (.slice (some ⟨m.next,0,some 1⟩) 2 1,m1)∧Xi (TA (d + 7)) (fPut bV) [.bool c,.slice (some ⟨m.next,0,some 1⟩) 2 1] m1=some (.tuple ⟨[]⟩,m2) ∧
   Q7q ⟨TA (d + 7),18446744073709551616⟩ (fPut bV) (pt b1 0 0) (pt bV 0 0) m2=some (txtV (Xz [32] (Xu (decide (q.kind=7)) (Xu c ws [vrfW,q.vrf]) [X1z q.ad])) q,m')∧Fr [bV,b] m m':=by
  intro c
  obtain ⟨m1,m2,p1,p2,p3,p4⟩:=h.t.put2 (by omega) vrfW q.vrf c (d + 6)
  have h2:=h.step p3 p4
  obtain ⟨m3,r1,r2⟩:=X10z h2 ha (by split <;> (try simp only [List.length_append,List.length_cons,List.length_nil]) <;> omega) (hT c) d
  exact ⟨m1,m2,m3,p1,p2,r1,p3.trans r2⟩
 unfold Ql6
 simp only [Xy,x0,x3,X7,Q5z,Xj,ez,Q13n,ev]
 by_cases k5:q.kind=5
 ·obtain ⟨m1,m2,m3,p1,p2,p3,p4⟩:=go (decide (q.vrf ≠ []))
  rw [if_pos (by omega)]
  have e:decide ((q.kind=5∨q.kind=6)∧q.vrf ≠ [])=decide (q.vrf ≠ []):=by simp [k5]
  rw [e]
  refine ⟨m3,?_,p4⟩
  have p1:Xc Q6 [sv []] 1 2 [(0,sv vrfW),(1,sv q.vrf)] m=_:=p1
  rw [p1,X9,p2,X9]
  exact p3
 rw [if_neg (by omega)]
 by_cases k6:q.kind=6
 ·obtain ⟨m1,m2,m3,p1,p2,p3,p4⟩:=go (decide (q.vrf ≠ []))
  rw [if_pos (by omega)]
  have e:decide ((q.kind=5∨q.kind=6)∧q.vrf ≠ [])=decide (q.vrf ≠ []):=by simp [k6]
  rw [e]
  refine ⟨m3,?_,p4⟩
  have p1:Xc Q6 [sv []] 1 2 [(0,sv vrfW),(1,sv q.vrf)] m=_:=p1
  rw [p1,X9,p2,X9]
  exact p3
 ·obtain ⟨m1,m2,m3,p1,p2,p3,p4⟩:=go false
  rw [if_neg (by omega)]
  have e:decide ((q.kind=5∨q.kind=6)∧q.vrf ≠ [])=false:=by simp [k5,k6]
  rw [e]
  refine ⟨m3,?_,p4⟩
  have p1:Xc Q6 [sv []] 1 2 [(0,sv vrfW),(1,sv q.vrf)] m=_:=p1
  rw [p1,X9,p2,X9]
  exact p3
end Go.Ab.Sh

set_option maxRecDepth 100000
namespace Go.Ab.Sh
open Go Go.Ab Go.Lib
variable {m:Mem} {bV b b1:Nat} {ws:List Str} {q:QN}
theorem Xwl {k n:Nat}:decide ((k:Int)=(n:Int))=decide (k=n):=by
 by_cases e:k=n
 ·rw [decide_eq_true e,decide_eq_true (by omega)]
 ·rw [decide_eq_false e,decide_eq_false (by omega)]
theorem Xc8 {k n:Nat}:decide ((k:Int) < (n:Int))=decide (k < n):=by
 by_cases e:k < n
 ·rw [decide_eq_true e,decide_eq_true (by omega)]
 ·rw [decide_eq_false e,decide_eq_false (by omega)]
theorem X32 (c:Bool) (ws xs:List Str):(Xu c ws xs).length ≤ ws.length + xs.length:=by
 unfold Xu
 split <;> simp
def w11 (q:QN) (ws:List Str):List Str:=Xu (decide (q.kind=7)) (Xu (decide ((q.kind=5∨q.kind=6)∧q.vrf ≠ [])) ws [vrfW,q.vrf]) [X1z q.ad]
def w10 (q:QN) (ws:List Str):List Str:=w11 q (Xu (decide (q.kind=4)) ws [itoa q.hops,X3x q.a q.b q.p q.m q.n])
def Fit (q:QN) (ws:List Str):Prop:=∀ c1 c2 c3,(Xz [32] (Xu c3 (Xu c2 (Xu c1 ws [itoa q.hops,X3x q.a q.b q.p q.m q.n]) [vrfW,q.vrf]) [X1z q.ad])).length ≤ 4194304
theorem Xxg (h:TQ m bV b b1 ws q) (hq:QOk q) (hw:ws.length ≤ 700) (hT:Fit q ws) (d:Nat) :
  ∃ m',Qfr ⟨TA (d + 7),18446744073709551616⟩ (fPut bV) (pt b1 0 0) (pt bV 0 0) m=some (txtV (Xz [32] (w10 q ws)) q,m')∧Fr [bV,b] m m':=by
 have x0:=h.ld (o:=0 + 0) (x:=.int .u8 (q.kind:Int)) rfl
 have x20:=h.ld (o:=0 + 20) (x:=I q.hops) rfl
 have x15:X4 true 5 (pt b1 (0 + 15) 0) m=some (hdr q.a q.b q.p q.m q.n):=X10 h.gq (by show 0 + 15 + 5 ≤ 22; omega) rfl
 have ci:TA (d + 7) Qb [I q.hops] m=_:=c_Itoa q.hops hq.hops (d + 7) m
 have ch:TA (d + 7) Q7n [hdr q.a q.b q.p q.m q.n] m=_:=c_headerText hq.hb (d + 4) m
 have hk:decide ((q.kind:Int)=4)=decide (q.kind=4):=Xwl (n:=4)
 obtain ⟨m1,m2,p1,p2,p3,p4⟩:=h.t.put2 (by omega) (itoa q.hops) (X3x q.a q.b q.p q.m q.n) (decide (q.kind=4)) (d + 6)
 have h2:=h.step p3 p4
 have hl:=X32 (decide (q.kind=4)) ws [itoa q.hops,X3x q.a q.b q.p q.m q.n]
 obtain ⟨m3,r1,r2⟩:=X112 (ws:=Xu (decide (q.kind=4)) ws [itoa q.hops,X3x q.a q.b q.p q.m q.n]) h2 hq.ad (by simp at hl; omega) (hT (decide (q.kind=4))) d
 refine ⟨m3,?_,p3.trans r2⟩
 unfold Qfr
 simp only [Xy,x0,x20,x15,X7,Q5z,ci,X9,X3p,X8z,Bool.and_true,X2h,ch,hk,p1,p2]
 exact r1
end Go.Ab.Sh

set_option maxRecDepth 100000
namespace Go.Ab.Sh
open Go Go.Ab Go.Lib
theorem Xoy (a b:Int) (mm:Mem):again (pur (some (X1k a b)) mm) (X1k a b)=true:=by
 show vsame 8 (X1k a b) (X1k a b)=true
 simp [vsame,vsame.vsames]
theorem Q1ph (a b c e:Nat):bin .neq false true (.struct [(0,1,false,.int),(1,1,false,.int)]) (X1k a b) (X1k c e)=some (.bool (decide (a ≠ c∨b ≠ e))):=by
 rw [X1c]
 show (if (true || Xeq (X1k a b)) && (false || notNil (X1k a b) (X1k c e)) then match aEq (.struct [(0,1,false,.int),(1,1,false,.int)]) (X1k a b) (X1k c e) with | some b=>some (Value.bool !b) | none=>none else none)=_
 have h:aEq (.struct [(0,1,false,.int),(1,1,false,.int)]) (X1k a b) (X1k c e)=some (decide ((a:Int)=c∧(b:Int)=e∧True)):=Xdi _ _ _ _ _ _
 rw [h]
 by_cases h1:a=c
 ·by_cases h2:b=e
  ·subst h1 h2
   simp; rfl
  ·rw [decide_eq_false (by omega),decide_eq_true (by omega)]; rfl
 ·rw [decide_eq_false (by omega),decide_eq_true (by omega)]; rfl
noncomputable abbrev tyRu:Option Nat:=some (2 * Qik + 1)
structure TH (m:Mem) (bV b b1 bH b8:Nat) (ws:List Str) (q:QN):Prop where
 tq:TQ m bV b b1 ws q
 gH:m.get bH=some (.cells (rlC q.r) 0 0 false tyRu)
 g8:m.get b8=some (.cells [.int .u32 0,.int .u32 65535] 0 0 false (some (2 * Qu + 1)))
 nH:bH < m.next
 n8:b8 < m.next
 h1:bH ≠ bV
 h2:bH ≠ b
 h3:b8 ≠ bV
 h4:b8 ≠ b
variable {m:Mem} {bV b b1 bH b8:Nat} {ws:List Str} {q:QN}
theorem TH.step {m':Mem} {ws':List Str} (h:TH m bV b b1 bH b8 ws q) (f:Fr [bV,b] m m') (t:TS m' bV b ws'):TH m' bV b b1 bH b8 ws' q:=
 ⟨h.tq.step f t,by rw [f.get _ h.nH (by simp; exact ⟨h.h1,h.h2⟩)]; exact h.gH,by rw [f.get _ h.n8 (by simp; exact ⟨h.h3,h.h4⟩)]; exact h.g8,Nat.lt_of_lt_of_le h.nH f.next,Nat.lt_of_lt_of_le h.n8 f.next,h.h1,h.h2,h.h3,h.h4⟩
theorem TH.put (h:TH m bV b b1 bH b8 ws q) (hl:ws.length ≤ 900) (x y:Str) (c:Bool) (d:Nat):∃ m1 m',Xc Q6 [(.string ⟨#[]⟩)] 1 2 [(0,sv x),(1,sv y)] m=some (.slice (some ⟨m.next,0,some 1⟩) 2 1,m1)∧Xi (TA (d + 7)) (fPut bV) [.bool c,.slice (some ⟨m.next,0,some 1⟩) 2 1] m1=some (.tuple ⟨[]⟩,m')∧Fr [bV,b] m m'∧TH m' bV b b1 bH b8 (Xu c ws [x,y]) q:=by
 obtain ⟨m1,m2,p1,p2,p3,p4⟩:=h.tq.t.put2 hl x y c (d + 6)
 exact ⟨m1,m2,p1,p2,p3,h.step p3 p4⟩
def w9 (q:QN) (ws:List Str):List Str:=if q.kind < 4 then Xu (cD q.r) (Xu (cS q.r) (Xu (cP q.r) (Xu (cT q.r) (Xu (cF q.r) ws [fromW,X1o q.r.sa q.r.sb]) [toW,X1o q.r.da q.r.db]) [protoW,itoa q.r.proto]) [sportsW,X17 q.r.sl q.r.sh]) [dportsW,X17 q.r.dl q.r.dh] else ws
theorem X12f (h:TQ m bV b b1 ws q) (hq:QOk q) (g8:m.get b8=some (.cells [.int .u32 0,.int .u32 65535] 0 0 false (some (2 * Qu + 1)))) (n8:b8 < m.next) (h3:b8 ≠ bV) (h4:b8 ≠ b) (hw:ws.length ≤ 500) (hT:Fit q (w9 q ws)) (d:Nat) :
  ∃ m',Qnf ⟨TA (d + 7),18446744073709551616⟩ (pt b1 0 0) (fPut bV) (pt b8 0 0) (.func (.func Q6y) #[] #[]) (pt bV 0 0) m=some (txtV (Xz [32] (w10 q (w9 q ws))) q,m')∧Fr [bV,b] m m':=by
 have x0:=h.ld (o:=0 + 0) (x:=.int .u8 (q.kind:Int)) rfl
 have x5:X4 true 10 (pt b1 (0 + 5) 0) m=some (rlV q.r):=X10 h.gq (by show 0 + 5 + 10 ≤ 22; omega) rfl
 unfold Qnf
 simp only [Xy,x0,X7,Q34,Xj]
 by_cases k4:q.kind < 4
 ·rw [if_pos (by omega)]
  have hW:w9 q ws=Xu (cD q.r) (Xu (cS q.r) (Xu (cP q.r) (Xu (cT q.r) (Xu (cF q.r) ws [fromW,X1o q.r.sa q.r.sb]) [toW,X1o q.r.da q.r.db]) [protoW,itoa q.r.proto]) [sportsW,X17 q.r.sl q.r.sh]) [dportsW,X17 q.r.dl q.r.dh]:=by unfold w9; rw [if_pos k4]
  rw [hW] at hT ⊢
  obtain ⟨m1,s1,s2,s3,s4⟩:=X16 [] m tyRu Qb4 (v:=rlV q.r) (n:=10) rfl rfl rfl
  have s1:X8 10 (pt m.next 0 0) (rlV q.r) (m.push (.cells Qb4 0 0 false (some (2 * Qik + 1))))=some m1:=s1
  have e1:=h.t.nV
  have e2:=h.t.nb
  have H1:TH m1 bV b b1 m.next b8 ws q:=⟨h.frn s2,s4,by rw [s2.get _ n8 (by simp)]; exact g8,by omega,by omega,by omega,by omega,h3,h4⟩
  have L1:=X32 (cF q.r) ws [fromW,X1o q.r.sa q.r.sb]
  have L2:=X32 (cT q.r) (Xu (cF q.r) ws [fromW,X1o q.r.sa q.r.sb]) [toW,X1o q.r.da q.r.db]
  have L3:=X32 (cP q.r) (Xu (cT q.r) (Xu (cF q.r) ws [fromW,X1o q.r.sa q.r.sb]) [toW,X1o q.r.da q.r.db]) [protoW,itoa q.r.proto]
  have L4:=X32 (cS q.r) (Xu (cP q.r) (Xu (cT q.r) (Xu (cF q.r) ws [fromW,X1o q.r.sa q.r.sb]) [toW,X1o q.r.da q.r.db]) [protoW,itoa q.r.proto]) [sportsW,X17 q.r.sl q.r.sh]
  have L5:=X32 (cD q.r) (Xu (cS q.r) (Xu (cP q.r) (Xu (cT q.r) (Xu (cF q.r) ws [fromW,X1o q.r.sa q.r.sb]) [toW,X1o q.r.da q.r.db]) [protoW,itoa q.r.proto]) [sportsW,X17 q.r.sl q.r.sh]) [dportsW,X17 q.r.dl q.r.dh]
  simp only [List.length_cons,List.length_nil] at L1 L2 L3 L4 L5
  obtain ⟨a1,a2,a3,a4,a5,H2⟩:=H1.put (by omega) fromW (X1o q.r.sa q.r.sb) (cF q.r) d
  obtain ⟨c1,c2,c3,c4,c5,H3⟩:=H2.put (by omega) toW (X1o q.r.da q.r.db) (cT q.r) d
  obtain ⟨d1,d2,d3,d4,d5,H4⟩:=H3.put (by omega) protoW (itoa q.r.proto) (cP q.r) d
  obtain ⟨f1,f2,f3,f4,f5,H5⟩:=H4.put (by omega) sportsW (X17 q.r.sl q.r.sh) (cS q.r) d
  obtain ⟨g1,g2,g3,g4,g5,H6⟩:=H5.put (by omega) dportsW (X17 q.r.dl q.r.dh) (cD q.r) d
  obtain ⟨m9,r1,r2⟩:=Xxg H6.tq hq (by omega) hT d
  refine ⟨m9,?_,(((((((s2.mono (by simp)).trans a5).trans c5).trans d5).trans f5).trans g5).trans r2)⟩
  have ld:∀ {mm:Mem} {wz:List Str} (k:TH mm bV b b1 m.next b8 wz q) (o:Nat) (x:Value),(rlC q.r)[o]?=some x→X4 false 1 (pt m.next o 0) mm=some x:=fun k o x hx=>Xt k.gH hx
  have l2:∀ {mm:Mem} {wz:List Str} (k:TH mm bV b b1 m.next b8 wz q) (o:Nat) (x:Value) (cs:List Value),o + 2 ≤ 10→((rlC q.r).drop o).take 2=cs→x=.agg ⟨cs⟩→X4 true 2 (pt m.next o 0) mm=some x:=fun k o x cs ho hc hx=>by rw [hx]; exact X10 k.gH ho hc
  have l8:∀ {mm:Mem} {wz:List Str} (k:TH mm bV b b1 m.next b8 wz q),X4 true 2 (pt b8 0 0) mm=some (X1k ((0:Nat):Int) ((65535:Nat):Int)):=fun k=>X10 k.g8 (by show 2 ≤ 2; omega) rfl
  have u1:=ld H1 (0 + 2 + 1) (I q.r.sb) rfl
  have u2:=l2 H1 (0 + 2) (pfx q.r.sa q.r.sb) _ (by omega) rfl rfl
  have u3:TA (d + 7) Q3e [pfx q.r.sa q.r.sb] m1=_:=c_addrPrefixText q.r.sa hq.r.sa q.r.sb hq.r.sb (d + 5) m1
  have v1:=ld H2 (0 + 4 + 1) (I q.r.db) rfl
  have v2:=l2 H2 (0 + 4) (pfx q.r.da q.r.db) _ (by omega) rfl rfl
  have v3:TA (d + 7) Q3e [pfx q.r.da q.r.db] a2=_:=c_addrPrefixText q.r.da hq.r.da q.r.db hq.r.db (d + 5) a2
  have w1:=ld H3 (0 + 1) (I q.r.proto) rfl
  have w3:TA (d + 7) Qb [I q.r.proto] c2=_:=c_Itoa q.r.proto hq.r.proto (d + 7) c2
  have y1:=l2 H4 (0 + 6) (X1k q.r.sl q.r.sh) _ (by omega) rfl rfl
  have y3:Xi (TA (d + 7)) (.func (.func Q6y) #[] #[]) [X1k q.r.sl q.r.sh] d2=some (sv (X17 q.r.sl q.r.sh),d2):=c_spanA q.r.sl q.r.sh hq.r.sl hq.r.sh (d + 6) d2
  have z1:=l2 H5 (0 + 8) (X1k q.r.dl q.r.dh) _ (by omega) rfl rfl
  have z3:Xi (TA (d + 7)) (.func (.func Q6y) #[] #[]) [X1k q.r.dl q.r.dh] f2=some (sv (X17 q.r.dl q.r.dh),f2):=c_spanA q.r.dl q.r.dh hq.r.dl hq.r.dh (d + 6) f2
  have E1:Value.string ⟨#[102,114,111,109]⟩=sv fromW:=rfl
  have E2:Value.string ⟨#[116,111]⟩=sv toW:=rfl
  have E3:Value.string ⟨#[112,114,111,116,111]⟩=sv protoW:=rfl
  have E4:Value.string ⟨#[115,112,111,114,116,115]⟩=sv sportsW:=rfl
  have E5:Value.string ⟨#[100,112,111,114,116,115]⟩=sv dportsW:=rfl
  have C1:decide (q.r.sb ≠ 0)=cF q.r:=rfl
  have C2:decide (q.r.db ≠ 0)=cT q.r:=rfl
  have C3:decide (q.r.proto ≠ -1)=cP q.r:=rfl
  have C4:decide (q.r.sl ≠ 0∨q.r.sh ≠ 65535)=cS q.r:=rfl
  have C5:decide (q.r.dl ≠ 0∨q.r.dh ≠ 65535)=cD q.r:=rfl
  rw [x5,X7,X13]
  simp only [s1,Xg,Xy,u1,X7,u2,u3,X9,Q8k,X3p,Bool.and_true,X2h,E1,C1,a3,a4,v1,v2,v3,E2,C2,c3,c4,w1,w3,E3,C3,d3,d4,y1,l8 H4,y3,Q1ph,Xoy,E4,C4,f3,f4,z1,l8 H5,z3,E5,C5,g3,g4]
  exact r1
 ·rw [if_neg (by omega)]
  have hW:w9 q ws=ws:=by unfold w9; rw [if_neg k4]
  rw [hW] at hT ⊢
  exact Xxg h hq (by omega) hT d
end Go.Ab.Sh

set_option maxRecDepth 100000
namespace Go.Ab.Sh
open Go Go.Ab Go.Lib
variable {m:Mem} {bV b b1 bH b8:Nat} {ws:List Str} {q:QN}
noncomputable abbrev fWd:Value:=.func (.func Q92) #[] #[]
noncomputable abbrev fSp:Value:=.func (.func Q6y) #[] #[]
structure T8 (m:Mem) (bV b b8:Nat):Prop where
 g8:m.get b8=some (.cells [.int .u32 0,.int .u32 65535] 0 0 false (some (2 * Qu + 1)))
 n8:b8 < m.next
 h3:b8 ≠ bV
 h4:b8 ≠ b
theorem T8.fr {m':Mem} (h:T8 m bV b b8) (f:Fr [bV,b] m m'):T8 m' bV b b8:=
 ⟨by rw [f.get _ h.n8 (by simp; exact ⟨h.h3,h.h4⟩)]; exact h.g8,Nat.lt_of_lt_of_le h.n8 f.next,h.h3,h.h4⟩
def w8 (q:QN) (ws:List Str):List Str:=w9 q (Xu (decide (q.kind < 3)) ws [X2i endsL q.en])
theorem X12b (h:TQ m bV b b1 ws q) (hq:QOk q) (h8:T8 m bV b b8) (hw:ws.length ≤ 400) (hT:Fit q (w8 q ws)) (d:Nat) :
  ∃ m',Qng ⟨TA (d + 7),18446744073709551616⟩ (fPut bV) (pt b1 0 0) fWd (pt b8 0 0) fSp (pt bV 0 0) m=some (txtV (Xz [32] (w10 q (w8 q ws))) q,m')∧Fr [bV,b] m m':=by
 have x0:=h.ld (o:=0 + 0) (x:=.int .u8 (q.kind:Int)) rfl
 have x4:=h.ld (o:=0 + 4) (x:=.int .u8 (q.en:Int)) rfl
 have cw:Xi (TA (d + 7)) fWd [sv Xdu,.int .u8 (q.en:Int)] m=some (sv (X2i endsL q.en),m):=c_wordE q.en hq.en (d + 6) m
 have hk:decide ((q.kind:Int) < 3)=decide (q.kind < 3):=Xc8 (n:=3)
 obtain ⟨m1,m2,p1,p2,p3,p4⟩:=h.t.put1 (by omega) (X2i endsL q.en) (decide (q.kind < 3)) (d + 6)
 have hl:=X32 (decide (q.kind < 3)) ws [X2i endsL q.en]
 have h82:=h8.fr p3
 obtain ⟨m3,r1,r2⟩:=X12f (ws:=Xu (decide (q.kind < 3)) ws [X2i endsL q.en]) (h.step p3 p4) hq h82.g8 h82.n8 h82.h3 h82.h4 (by simp at hl; omega) hT d
 refine ⟨m3,?_,p3.trans r2⟩
 unfold Qng
 rw [Xy,X7,x0,X7,Q34,X7,Xy,X7,x4,X7]
 have hgo:∀ K:Value→Mem→Option Rs,bp (Xi (TA (d + 7)) fWd [sv Xdu,.int .u8 (q.en:Int)] m) K=K (sv (X2i endsL q.en)) m:=fun K=>by rw [cw,X9]
 refine (hgo _).trans ?_
 simp only [x0,X3p,Bool.and_true,X2h,hk,p1,X9,p2]
 exact r1
def w7 (q:QN) (ws:List Str):List Str:=w8 q (Xu (decide (q.kind < 5)) ws [q.ifc])
theorem X132 (h:TQ m bV b b1 ws q) (hq:QOk q) (h8:T8 m bV b b8) (hw:ws.length ≤ 300) (hT:Fit q (w7 q ws)) (d:Nat) :
  ∃ m',Qnh ⟨TA (d + 7),18446744073709551616⟩ (fPut bV) (pt b1 0 0) fWd (pt b8 0 0) fSp (pt bV 0 0) m=some (txtV (Xz [32] (w10 q (w7 q ws))) q,m')∧Fr [bV,b] m m':=by
 have x0:=h.ld (o:=0 + 0) (x:=.int .u8 (q.kind:Int)) rfl
 have x2:=h.ld (o:=0 + 2) (x:=sv q.ifc) rfl
 have hk:decide ((q.kind:Int) < 5)=decide (q.kind < 5):=Xc8 (n:=5)
 obtain ⟨m1,m2,p1,p2,p3,p4⟩:=h.t.put1 (by omega) q.ifc (decide (q.kind < 5)) (d + 6)
 have hl:=X32 (decide (q.kind < 5)) ws [q.ifc]
 obtain ⟨m3,r1,r2⟩:=X12b (ws:=Xu (decide (q.kind < 5)) ws [q.ifc]) (h.step p3 p4) hq (h8.fr p3) (by simp at hl; omega) hT d
 refine ⟨m3,?_,p3.trans r2⟩
 unfold Qnh
 simp only [Xy,x0,x2,X7,Q34,hk,p1,X9,p2]
 exact r1
def w6 (q:QN) (ws:List Str):List Str:=w7 q (Xu (decide (q.kind < 7)) ws [q.dev])
theorem X135 (h:TQ m bV b b1 ws q) (hq:QOk q) (h8:T8 m bV b b8) (hw:ws.length ≤ 200) (hT:Fit q (w6 q ws)) (d:Nat) :
  ∃ m',Qni ⟨TA (d + 7),18446744073709551616⟩ (fPut bV) (pt b1 0 0) fWd (pt b8 0 0) fSp (pt bV 0 0) m=some (txtV (Xz [32] (w10 q (w6 q ws))) q,m')∧Fr [bV,b] m m':=by
 have x0:=h.ld (o:=0 + 0) (x:=.int .u8 (q.kind:Int)) rfl
 have x1:=h.ld (o:=0 + 1) (x:=sv q.dev) rfl
 have hk:decide ((q.kind:Int) < 7)=decide (q.kind < 7):=Xc8 (n:=7)
 obtain ⟨m1,m2,p1,p2,p3,p4⟩:=h.t.put1 (by omega) q.dev (decide (q.kind < 7)) (d + 6)
 have hl:=X32 (decide (q.kind < 7)) ws [q.dev]
 obtain ⟨m3,r1,r2⟩:=X132 (ws:=Xu (decide (q.kind < 7)) ws [q.dev]) (h.step p3 p4) hq (h8.fr p3) (by simp at hl; omega) hT d
 refine ⟨m3,?_,p3.trans r2⟩
 unfold Qni
 simp only [Xy,x0,x1,X7,Q34,hk,p1,X9,p2]
 exact r1
def textW (q:QN):List Str:=w10 q (w6 q [X2i kindsL q.kind])
theorem c_askText (q:QN) (hq:QOk q) (hT:Fit q (w6 q [X2i kindsL q.kind])) (d:Nat) (m:Mem):TA (d + 8) Qeo [qV q] m=some (txtV (Xz [32] (textW q)) q,m):=by
 rw [Xq1]
 let M:=((X3 m m.next).push (.cells (qC q) 0 0 false tyA)).push (.cells [.slice none 0 0] 0 0 false tyR)
 have nM:M.next=m.next + 2:=rfl
 have g1:M.get m.next=some (.cells (qC q) 0 0 false tyA):=by
  show (((X3 m m.next).push (.cells (qC q) 0 0 false tyA)).push (.cells [.slice none 0 0] 0 0 false tyR)).get m.next=_
  rw [Mem.get_push,if_neg (by show ¬ m.next + 1=m.next; omega)]
  exact X1e (X3 m m.next) _
 have gV:M.get (m.next + 1)=some (.cells [.slice none 0 0] 0 0 false tyR):=X1e ((X3 m m.next).push (.cells (qC q) 0 0 false tyA)) _
 have F0:Fb m.next (X3 m m.next) M:=(Fb.push (m:=X3 m m.next) _ (Nat.le_refl _)).trans (Fb.push _ (by show m.next ≤ m.next + 1; omega))
 have aS:X18 Qv [(0,1),(1,1)] [(1,(.int .u32 65535))]=some (X1k ((0:Nat):Int) ((65535:Nat):Int)):=Eq.trans rfl rfl
 obtain ⟨m1,s1,s2,s3,s4⟩:=X16 [] M (some (2 * Qu + 1)) Qv (v:=X1k ((0:Nat):Int) ((65535:Nat):Int)) (n:=2) rfl rfl rfl
 have s1:X8 2 (pt M.next 0 0) (X1k ((0:Nat):Int) ((65535:Nat):Int)) (M.push (.cells Qv 0 0 false (some (2 * Qu + 1))))=some m1:=s1
 have gV1:m1.get (m.next + 1)=some (.cells [.slice none 0 0] 0 0 false tyR):=by rw [s2.get _ (by omega) (by simp)]; exact gV
 have g11:m1.get m.next=some (.cells (qC q) 0 0 false tyA):=by rw [s2.get _ (by omega) (by simp)]; exact g1
 have x0:X4 false 1 (pt m.next (0 + 0) 0) m1=some (.int .u8 (q.kind:Int)):=Xt g11 rfl
 have cw:Xi (TA (d + 7)) fWd [sv X6j,.int .u8 (q.kind:Int)] m1=some (sv (X2i kindsL q.kind),m1):=c_wordK q.kind hq.kind (d + 6) m1
 obtain ⟨m2,m3,p1,p2,p3,p4⟩:=put0 gV1 (by omega) (X2i kindsL q.kind) (d + 6)
 have hb:m1.next + 1 ≠ m.next:=by omega
 have h3:TQ m3 (m.next + 1) (m1.next + 1) m.next [X2i kindsL q.kind] q:=⟨p4,by rw [p3.get _ (by omega) (by simp)]; exact g11,by have:=p3.next; omega,by omega,by omega⟩
 have h8:T8 m3 (m.next + 1) (m1.next + 1) M.next:=⟨by rw [p3.get _ (by omega) (by simp; omega)]; exact s4,by have:=p3.next; omega,by omega,by omega⟩
 obtain ⟨m4,r1,r2⟩:=X135 h3 hq h8 (by simp) hT d
 have F4:Fb m.next M m4:=((s2.toFb (by omega)).trans (p3.toFbW (by simp) (by omega))).trans (r2.toFbW (by simp; omega) (by have:=p3.next; omega))
 refine X2a (m1:=m4) ?_ (F0.trans F4) (by unfold txtV; split <;> rfl)
 have hcs:(Value.cells (qV q)).toList=qC q:=rfl
 unfold Qin Quo Qun Qum Qul Quk
 rw [hcs,X13,X13,aS,X7,X13]
 show bp (unt (X8 2 (pt M.next 0 0) (X1k ((0:Nat):Int) ((65535:Nat):Int)) (M.push (.cells Qv 0 0 false (some (2 * Qu + 1)))))) _=_
 rw [s1,Xg]
 unfold Quj
 show bp (pur (X0 0 (pt m.next 0 0)) m1) _=_
 rw [Xy,X7,x0,X7]
 have hgo:∀ K:Value→Mem→Option Rs,bp (Xi (TA (d + 7)) fWd [sv X6j,.int .u8 (q.kind:Int)] m1) K=K (sv (X2i kindsL q.kind)) m1:=fun K=>by rw [cw,X9]
 refine (hgo _).trans ?_
 have p2':Xi (TA (d + 7)) (.func (.func Q91) ⟨[]⟩ ⟨[pt ((X3 m m.next).push (.cells (qC q) 0 0 false (some (2 * Qy + 1)))).next 0 0]⟩) [.bool true,.slice (some ⟨m1.next,0,some 1⟩) 1 1] m2=some (.tuple ⟨[]⟩,m3):=p2
 rw [p1,X9,p2',X9]
 exact r1
end Go.Ab.Sh

set_option maxRecDepth 100000
namespace Go.Ab
open Go Go.Lib Go.Ab.Sh
theorem Xt9 (c:Bool) (ws:List Str) (x y:Str):Xu c ws [x,y]=ws ++ optW c x y:=by
 cases c <;> simp [Xu,optW]
theorem Xg9 {k:Nat} (h1:1 ≤ k) (h7:k ≤ 7):X2i kindsL k=X1h k:=by
 unfold X2i X1h
 rw [if_neg (by omega),if_neg (by show ¬ 7 < k; omega)]
theorem Xyj {k:Nat} (h1:1 ≤ k) (h7:k ≤ 7):X2i endsL k=endW k:=by
 unfold X2i endW
 rw [if_neg (by omega),if_neg (by show ¬ 7 < k; omega)]
theorem Xnt (q:QN) (ws:List Str) (h:q.kind < 4):w9 q ws=ws ++ X20 q.r:=by
 unfold w9 X20
 rw [if_pos h]
 simp only [Xt9,List.append_assoc]
theorem Xzh (ws xs:List Str):Xu true ws xs=ws ++ xs:=rfl
theorem X10f (ws xs:List Str):Xu false ws xs=ws:=rfl
theorem Xry {q:QN} (h:GoodQ q):Xz [32] (textW q)=writeT q:=by
 have hj:textW q=X1s q→Xz [32] (textW q)=writeT q:=fun e=>by rw [e]; exact (split_eq_iff.mp (X6o h)).2.1.symm
 cases h with
 | way k dev ifc en r hk hd hi e1 e7 hr =>
  refine hj ?_
  have h2:k ≤ 2:=by omega
  unfold textW w6 w7 w8 w10 w11 X1s
  simp only
  rw [if_pos h2,decide_eq_true (show k < 7 by omega),decide_eq_true (show k < 5 by omega),decide_eq_true (show k < 3 by omega),decide_eq_false (show ¬ k=4 by omega),decide_eq_false (show ¬ k=7 by omega),Xnt _ _ (show k < 4 by omega),Xg9 (show 1 ≤ k by omega) (by omega),Xyj e1 e7]
  rw [decide_eq_false (show ¬ ((k=5∨k=6)∧q0.vrf ≠ []) by omega)]
  simp only [Xzh,X10f,List.append_assoc,List.cons_append,List.nil_append]
 | loop dev ifc r hd hi hr =>
  refine hj ?_
  unfold textW w6 w7 w8 w10 w11 X1s
  simp only
  rw [Xnt _ _ (show 3 < 4 by omega),Xg9 (show 1 ≤ 3 by omega) (by omega)]
  rfl
 | trace dev ifc hops a b p m n hd hi hh hb =>
  have e:textW { q0 with kind:=4,dev:=dev,ifc:=ifc,hops:=(hops:Nat),a:=a,b:=b,p:=p,m:=m,n:=n }=[X1h 4,dev,ifc,itoa (hops:Nat),X3x a b p m n]:=rfl
  rw [e]
  show _=X1h 4 ++ [32] ++ dev ++ [32] ++ ifc ++ [32] ++ itoa (hops:Nat) ++ [32] ++ X3x a b p m n
  simp [Xz,List.intercalate,List.intersperse]
 | table k dev hk hd =>
  refine hj ?_
  rcases hk with rfl | rfl <;> rfl
 | tableV k dev vrf hk hd hv =>
  refine hj ?_
  have hne:=Xhg hv
  rcases hk with rfl | rfl
  ·unfold textW w6 w7 w8 w10 w11 X1s
   simp only
   simp [Xu,w9,hne,Xg9]
  ·unfold textW w6 w7 w8 w10 w11 X1s
   simp only
   simp [Xu,w9,hne,Xg9]
 | owner ad ha =>
  refine hj ?_
  rfl
theorem Xri (q:QN):(GoodQ q→txtV (Xz [32] (textW q)) q=.tuple ⟨[sv (writeT q),I 0]⟩)∧(¬ GoodQ q→txtV (Xz [32] (textW q)) q=.tuple ⟨[sv [],I 1]⟩):=by
 constructor
 ·intro h
  unfold txtV
  rw [Xry h,if_pos (ask_iff.mpr ⟨h,rfl⟩)]
 ·intro h
  unfold txtV
  rw [if_neg (fun e=>h (ask_iff.mp e).1)]
end Go.Ab

set_option maxRecDepth 100000
namespace Go.Ab
open Go Go.Lib Go.Ab.Sh
def sumL:List Str→Nat
 | []=>0
 | w :: ws=>w.length + 1 + sumL ws
theorem Xnq:∀ (l k:List Str),sumL (l ++ k)=sumL l + sumL k
 | [],k=>by simp [sumL]
 | w :: l,k=>by rw [List.cons_append,sumL,sumL,Xnq l k]; omega
theorem Xi5:∀ (l:List Str),(Xz [32] l).length ≤ sumL l
 | []=>Nat.zero_le _
 | [a]=>by simp [Xz,List.intercalate,sumL]
 | a :: b :: l=>by
  have e:Xz [32] (a :: b :: l)=a ++ 32 :: Xz [32] (b :: l):=by simp [Xz,List.intercalate,List.intersperse]
  have:=Xi5 (b :: l)
  rw [e,sumL]
  simp only [List.length_append,List.length_cons]
  omega
theorem X2c (c:Bool) (ws xs:List Str):sumL (Xu c ws xs) ≤ sumL ws + sumL xs:=by
 unfold Xu
 split
 ·rw [Xnq]; omega
 ·omega
theorem Xjb (l:List Str) (n:Nat) (hl:∀ w ∈ l,w.length ≤ 10):(X2i l n).length ≤ 10:=by
 unfold X2i
 split
 ·simp
 ·split
  ·simp
  ·rw [List.getD_eq_getElem?_getD]
   cases h:l[n - 1]? with
   | none=>simp
   | some w=>exact hl w (List.mem_of_getElem? h)
theorem X11l (q:QN) (hq:QOk q) (ws:List Str):sumL (w9 q ws) ≤ sumL ws + 500:=by
 unfold w9
 split
 ·have f1:=X92 q.r.sa q.r.sb hq.r.sa hq.r.sb
  have f2:=X92 q.r.da q.r.db hq.r.da hq.r.db
  have f3:=Sh.itoa_len q.r.proto hq.r.proto
  have f4:=X9g q.r.sl q.r.sh hq.r.sl hq.r.sh
  have f5:=X9g q.r.dl q.r.dh hq.r.dl hq.r.dh
  have g1:=X2c (cF q.r) ws [fromW,X1o q.r.sa q.r.sb]
  have g2:=X2c (cT q.r) (Xu (cF q.r) ws [fromW,X1o q.r.sa q.r.sb]) [toW,X1o q.r.da q.r.db]
  have g3:=X2c (cP q.r) (Xu (cT q.r) (Xu (cF q.r) ws [fromW,X1o q.r.sa q.r.sb]) [toW,X1o q.r.da q.r.db]) [protoW,itoa q.r.proto]
  have g4:=X2c (cS q.r) (Xu (cP q.r) (Xu (cT q.r) (Xu (cF q.r) ws [fromW,X1o q.r.sa q.r.sb]) [toW,X1o q.r.da q.r.db]) [protoW,itoa q.r.proto]) [sportsW,X17 q.r.sl q.r.sh]
  have g5:=X2c (cD q.r) (Xu (cS q.r) (Xu (cP q.r) (Xu (cT q.r) (Xu (cF q.r) ws [fromW,X1o q.r.sa q.r.sb]) [toW,X1o q.r.da q.r.db]) [protoW,itoa q.r.proto]) [sportsW,X17 q.r.sl q.r.sh]) [dportsW,X17 q.r.dl q.r.dh]
  have w1:fromW.length=4:=rfl
  have w2:toW.length=2:=rfl
  have w3:protoW.length=5:=rfl
  have w4:sportsW.length=6:=rfl
  have w5:dportsW.length=6:=rfl
  simp only [sumL] at g1 g2 g3 g4 g5
  omega
 ·omega
theorem Xy1 (q:QN) (hq:QOk q) (hb:q.dev.length + q.ifc.length + q.vrf.length ≤ 4000000):Fit q (w6 q [X2i kindsL q.kind]):=by
 intro c1 c2 c3
 refine Nat.le_trans (Xi5 _) ?_
 have k1:=Xjb kindsL q.kind (by decide)
 have k2:=Xjb endsL q.en (by decide)
 have a1:=X2c (decide (q.kind < 7)) [X2i kindsL q.kind] [q.dev]
 have a2:=X2c (decide (q.kind < 5)) (Xu (decide (q.kind < 7)) [X2i kindsL q.kind] [q.dev]) [q.ifc]
 have a3:=X2c (decide (q.kind < 3)) (Xu (decide (q.kind < 5)) (Xu (decide (q.kind < 7)) [X2i kindsL q.kind] [q.dev]) [q.ifc]) [X2i endsL q.en]
 have a4:=X11l q hq (Xu (decide (q.kind < 3)) (Xu (decide (q.kind < 5)) (Xu (decide (q.kind < 7)) [X2i kindsL q.kind] [q.dev]) [q.ifc]) [X2i endsL q.en])
 have hW:w6 q [X2i kindsL q.kind]=w9 q (Xu (decide (q.kind < 3)) (Xu (decide (q.kind < 5)) (Xu (decide (q.kind < 7)) [X2i kindsL q.kind] [q.dev]) [q.ifc]) [X2i endsL q.en]):=rfl
 rw [hW]
 generalize w9 q (Xu (decide (q.kind < 3)) (Xu (decide (q.kind < 5)) (Xu (decide (q.kind < 7)) [X2i kindsL q.kind] [q.dev]) [q.ifc]) [X2i endsL q.en])=W at *
 have b1:=X2c c1 W [itoa q.hops,X3x q.a q.b q.p q.m q.n]
 have b2:=X2c c2 (Xu c1 W [itoa q.hops,X3x q.a q.b q.p q.m q.n]) [vrfW,q.vrf]
 have b3:=X2c c3 (Xu c2 (Xu c1 W [itoa q.hops,X3x q.a q.b q.p q.m q.n]) [vrfW,q.vrf]) [X1z q.ad]
 have l5:=Sh.itoa_len q.hops hq.hops
 have l6:=Xjs hq.hb
 have l7:=X56 q.ad hq.ad
 have l8:vrfW.length=3:=rfl
 simp only [sumL] at *
 omega
end Go.Ab

set_option maxRecDepth 100000
namespace Go.Ab
open Go Go.Lib Go.Ab.Sh
theorem Xq4 (q:QN) (hq:QOk q) (hb:q.dev.length + q.ifc.length + q.vrf.length ≤ 4000000):(writeT q).length ≤ 4194304:=by
 have l4:=Xpt q.r hq.r
 have l5:=Sh.itoa_len q.hops hq.hops
 have l6:=Xjs hq.hb
 have l7:=X56 q.ad hq.ad
 unfold writeT
 generalize X1z q.ad=AT at *
 generalize X3x q.a q.b q.p q.m q.n=HT at *
 generalize X8q q.r=PT at *
 generalize itoa q.hops=IH at *
 split
 ·simp
 ·rename_i w hw
  have hwl:=Xp3 w (List.mem_of_getElem? hw)
  split
  ·simp
  ·split
   ·split
    ·simp
    ·split
     ·simp
     ·rename_i e he
      have hel:=Xuj e (List.mem_of_getElem? he)
      simp only [List.length_append,List.length_cons,List.length_nil]
      omega
   ·split
    ·simp only [List.length_append,List.length_cons,List.length_nil]
     omega
    ·split
     ·simp only [List.length_append,List.length_cons,List.length_nil]
      omega
     ·split
      ·split <;> simp only [List.length_append,List.length_cons,List.length_nil] <;> omega
      ·simp only [List.length_append,List.length_cons,List.length_nil]
       omega
end Go.Ab

set_option maxRecDepth 100000
namespace Go.Ab.Sh
open Go Go.Ab Go.Lib
theorem X3g {s:Str} (h:X1b s=true):s.length ≤ 32:=by
 rw [Xmk] at h
 simp only [Bool.and_eq_true,decide_eq_true_eq] at h
 omega
theorem ok0:RlOk rl0:=⟨by decide,by decide,by decide,by decide,by decide,by decide,by decide,by decide,by decide⟩
theorem Xso:X7c 0=true:=by decide
theorem good_ok {q:QN} (h:GoodQ q):QOk q∧q.dev.length + q.ifc.length + q.vrf.length ≤ 4000000:=by
 cases h with
 | way k dev ifc en r hk h1 h2 e1 e2 hr =>
  have l1:=X3g h1
  have l2:=X3g h2
  exact ⟨⟨by show k < 256; omega,by show dev.length ≤ _; omega,by show ifc.length ≤ _; omega,by simp [q0],by show en < 256; omega,hr.ok,by simp [q0],by simp [q0],by simp [q0],by simp [q0],by simp [q0],Xso,by simp [q0]⟩,by show dev.length + ifc.length + 0 ≤ _; omega⟩
 | loop dev ifc r h1 h2 hr =>
  have l1:=X3g h1
  have l2:=X3g h2
  exact ⟨⟨by simp [q0],by show dev.length ≤ _; omega,by show ifc.length ≤ _; omega,by simp [q0],by simp [q0],hr.ok,by simp [q0],by simp [q0],by simp [q0],by simp [q0],by simp [q0],Xso,by simp [q0]⟩,by show dev.length + ifc.length + 0 ≤ _; omega⟩
 | trace dev ifc hops a b p m n h1 h2 hh hb =>
  have l1:=X3g h1
  have l2:=X3g h2
  exact ⟨⟨by simp [q0],by show dev.length ≤ _; omega,by show ifc.length ≤ _; omega,by simp [q0],by simp [q0],ok0,hb.a,hb.b,hb.p,hb.m,hb.n,X50 (by omega),by simp [q0]⟩,by show dev.length + ifc.length + 0 ≤ _; omega⟩
 | table k dev hk h1 =>
  have l1:=X3g h1
  exact ⟨⟨by show k < 256; omega,by show dev.length ≤ _; omega,by simp [q0],by simp [q0],by simp [q0],ok0,by simp [q0],by simp [q0],by simp [q0],by simp [q0],by simp [q0],Xso,by simp [q0]⟩,by show dev.length + 0 + 0 ≤ _; omega⟩
 | tableV k dev vrf hk h1 h2 =>
  have l1:=X3g h1
  have l2:=X3g h2
  exact ⟨⟨by show k < 256; omega,by show dev.length ≤ _; omega,by simp [q0],by show vrf.length ≤ _; omega,by simp [q0],ok0,by simp [q0],by simp [q0],by simp [q0],by simp [q0],by simp [q0],Xso,by simp [q0]⟩,by show dev.length + 0 + vrf.length ≤ _; omega⟩
 | owner ad h1 =>
  exact ⟨⟨by simp [q0],by simp [q0],by simp [q0],by simp [q0],by simp [q0],ok0,by simp [q0],by simp [q0],by simp [q0],by simp [q0],by simp [q0],Xso,h1⟩,by simp [q0]⟩
theorem c_AskBack (s:Str) (q:QN) (hs:s.length ≤ 4194304) (hq:QOk q) (hb:q.dev.length + q.ifc.length + q.vrf.length ≤ 4000000) (d:Nat)
  (hW:∀ m,TA (d + 8) Q1o [] m=some (.bool true,m)) (m:Mem) :
  TA (d + 9) Q3n [sv s,qV q] m=some (.bool true,m):=by
 rw [X60]
 let M:=(X3 m m.next).push (.cells (qC q) 0 0 false tyA)
 have nM:M.next=m.next + 1:=rfl
 have g1:M.get m.next=some (.cells (qC q) 0 0 false tyA):=X1e (X3 m m.next) _
 have F0:Fb m.next (X3 m m.next) M:=Fb.push (m:=X3 m m.next) _ (Nat.le_refl _)
 obtain ⟨o,ho⟩:∃ o,o=askW (split 32 s):=⟨_,rfl⟩
 have hWM:=hW M
 have c1:TA (d + 8) Q6n [sv s] M=_:=c_askParse s hs (d + 1) M
 rw [← ho,Xlh] at c1
 obtain ⟨m1,s1,s2,s3,s4⟩:=X16 [] M tyA Qc (v:=qV (o.getD q0)) (n:=22) rfl rfl rfl
 have s1:X8 22 (pt M.next 0 0) (qV (o.getD q0)) (M.push (.cells Qc 0 0 false (some (2 * Qy + 1))))=some m1:=s1
 have l1:X4 true 22 (pt M.next 0 0) m1=some (qV (o.getD q0)):=X10 s4 (by show 22 ≤ 22; omega) rfl
 have lq:X4 true 22 (pt m.next 0 0) m1=some (qV q):=X10 (by rw [s2.get _ (by omega) (by simp)]; exact g1) (by show 22 ≤ 22; omega) rfl
 have gq1:m1.get m.next=some (.cells (qC q) 0 0 false tyA):=by rw [s2.get _ (by omega) (by simp)]; exact g1
 -- behind the text's half
 have ct:TA (d + 8) Qeo [qV q] m1=_:=c_askText q hq (Xy1 q hq hb) d m1
 obtain ⟨y1,y2⟩:=Xri q
 have half:∃ m2,Q35 ⟨TA (d + 8),18446744073709551616⟩ (pt m.next 0 0) m1=some (.bool true,m2)∧Fr [] m1 m2:=by
  unfold Q35
  dsimp only
  rw [lq,X7,ct,X9]
  by_cases hg:GoodQ q
  ·rw [y1 hg,ex0,X7,ex1,X7]
   unfold Q5a
   rw [Q8k,X7,Xj,if_neg (fun h=>h rfl)]
   unfold Q9c
   dsimp only
   have c2:TA (d + 8) Q6n [sv (writeT q)] m1=_:=c_askParse (writeT q) (Xq4 q hq hb) (d + 1) m1
   rw [ask_iff.mpr ⟨hg,rfl⟩,Xlh] at c2
   obtain ⟨m2,t1,t2,t3,t4⟩:=X16 [] m1 tyA Qc (v:=qV q) (n:=22) rfl rfl rfl
   have t1:X8 22 (pt m1.next 0 0) (qV ((some q).getD q0)) (m1.push (.cells Qc 0 0 false (some (2 * Qy + 1))))=some m2:=t1
   have lx:X4 true 22 (pt m1.next 0 0) m2=some (qV q):=X10 t4 (by show 22 ≤ 22; omega) rfl
   have lq2:X4 true 22 (pt m.next 0 0) m2=some (qV q):=X10 (by rw [t2.get _ (by omega) (by simp)]; exact gq1) (by show 22 ≤ 22; omega) rfl
   obtain ⟨b,hb1,hb2⟩:=Q1pf q q
   refine ⟨m2,?_,t2⟩
   rw [c2,X9,ex0,X7,ex1,X7,X13,t1,Xg]
   unfold Q9b Q59
   rw [Q5z,X7,Xj,if_pos (by rfl),lx,X7,lq2,X7,hb1,X7,hb2.mpr rfl]
  ·rw [y2 hg,ex0,X7,ex1,X7]
   unfold Q5a
   refine ⟨m1,?_,.refl _ _⟩
   rw [Q8k,X7,Xj,if_pos (by decide),Q5z,X7]
   rfl
 obtain ⟨m2,h1,h2⟩:=half
 refine X2a (m1:=m2) ?_ (F0.trans ((s2.toFb (by omega)).trans (h2.toFb (by omega)))) rfl
 have hcs:(Value.cells (qV q)).toList=qC q:=rfl
 unfold Q2t Q9h
 rw [hcs,X13]
 show bp (TA (d + 8) Q1o [] M) _=_
 rw [hWM,X9,X2o,X7,show (Value.bool !true)=.bool false from rfl,Xd]
 unfold Q9g
 dsimp only
 rw [c1,X9,ex0,X7,ex1,X7,X13,s1,Xg]
 unfold Q9f Q9e
 rw [Q5z,X7,Xj]
 cases hs2:o with
 | none =>
  rw [if_neg (by decide)]
  exact h1
 | some x =>
  obtain ⟨gx,ex⟩:=ask_iff.mp (ho.symm.trans hs2)
  obtain ⟨okx,bx⟩:=good_ok gx
  have cx:TA (d + 8) Qeo [qV x] m1=_:=c_askText x okx (Xy1 x okx bx) d m1
  rw [hs2] at l1
  have l1:X4 true 22 (pt M.next 0 0) m1=some (qV x):=l1
  rw [if_pos (by rfl),l1,X7]
  dsimp only
  rw [cx,X9,(Xri x).1 gx,ex0,X7,ex1,X7]
  unfold Q9d Q4y
  rw [Q8k,X7,Xj,if_neg (fun h=>h rfl),Q13n,X7,ex,decide_eq_false (fun h=>h rfl),Xd]
  exact h1
end Go.Ab.Sh

set_option maxRecDepth 100000
namespace Go.Ab
open Go Go.Lib Go.Ab.Sh
def GA (B:Nat) (m:Mem) (v:Value) (vs:List Value):Prop:=
 (vs=[]∧v=.slice none 0 0)∨(vs ≠ []∧∃ b ver r ty,r < 2∧v=.slice (some ⟨b,0,some 1⟩) vs.length (2 * ver + r)∧B ≤ b∧b < m.next∧m.get b=some (.cells vs ver 0 false ty))
theorem GA.len {B:Nat} {m:Mem} {v:Value} {vs:List Value} (h:GA B m v vs) (m':Mem):lenK 1 v m'=some (I vs.length):=by
 rcases h with ⟨rfl,rfl⟩ | ⟨_,b,ver,r,ty,_,rfl,_⟩
 ·exact X5n _ _ _ _
 ·exact X5n _ _ _ _
theorem Xvg {m:Mem} {e bytes b b2 len ver fro2:Nat} {c new:List Value} {ty ty2:Option Nat} {ro2:Bool} (h:m.get b=some (.cells c ver 0 false ty)) (h2:m.get b2=some (.cells new 0 fro2 ro2 ty2)) (hn:new.length=1) (h1:new.all one=true)
  (hl:len=c.length) (hb:fits (len + 1) bytes=true) :
  apS e 1 bytes (.slice (some ⟨b,0,some 1⟩) len (2 * ver + 1)) (.slice (some ⟨b2,0,some 1⟩) 1 1) m=some (.slice (some ⟨m.next,0,some 1⟩) (len + 1) 0,m.push (.cells (c ++ new) 0 0 false (some (2 * e)))):=by
 refine Xn4 ?_
 unfold X3c
 have e1:(Nat.beq 1 0 || Nat.beq ((2 * ver + 1) % 2) 1)=true:=by
  have:(2 * ver + 1) % 2=1:=by omega
  rw [this]; rfl
 simp only [X2x,e1]
 unfold X1w
 have e3:Nat.ble 1 1=true:=rfl
 have e4:(2 * ver + 1) / 2=ver:=by omega
 have e5:Nat.ble len c.length=true:=Nat.ble_eq.mpr (by omega)
 have e6:(2 * ver + 1) % 2=1:=by omega
 simp only [X2x,Xfu h2 hn,h1,e3,Bool.and_self,Bool.not_true,Bool.false_eq_true,if_false,h,Nat.zero_add,e4,Nat.beq_refl,Nat.mul_one,e5,hb,beq_self_eq_true,e6,if_true,Nat.one_ne_zero,List.drop_zero]
 rw [hl,List.take_length]
theorem GA.app {B e bytes:Nat} {m:Mem} {v:Value} {vs:List Value} (h:GA B m v vs) (hB:B ≤ m.next) (hl:∀ k,k ≤ vs.length + 1→fits k bytes=true) (z w:Value) (hz:∃ k n,z=.int k n) (hw:∃ k n,w=.int k n) :
  ∃ m2 v' m',Xc e [z] 1 1 [(0,w)] m=some (.slice (some ⟨m.next,0,some 1⟩) 1 1,m2)∧apS e 1 bytes v (.slice (some ⟨m.next,0,some 1⟩) 1 1) m2=some (v',m')∧Fb B m m'∧GA B m' v' (vs ++ [w]):=by
 obtain ⟨kz,nz,rfl⟩:=hz
 obtain ⟨kw,nw,rfl⟩:=hw
 have hb:Xc e [.int kz nz] 1 1 [(0,.int kw nw)] m=some (.slice (some ⟨m.next,0,some 1⟩) 1 1,m.push (.cells [.int kw nw] 0 0 false (some (2 * e)))):=Eq.trans rfl rfl
 have hg:(m.push (.cells [.int kw nw] 0 0 false (some (2 * e)))).get m.next=some (.cells [.int kw nw] 0 0 false (some (2 * e))):=by rw [Mem.get_push,if_pos rfl]
 have hF:Fb B m (m.push (.cells [.int kw nw] 0 0 false (some (2 * e)))):=(Fb.push _ hB)
 rcases h with ⟨rfl,rfl⟩ | ⟨hne,b,ver,r,ty,hr,rfl,h2,h3,h4⟩
 ·have ha:=Xfy (e:=e) (bytes:=bytes) hg rfl rfl (Nat.le_refl 1) (hl 1 (Nat.le_refl _))
  refine ⟨_,_,_,hb,ha,hF.trans (Fb.push _ (by show B ≤ m.next + 1; omega)),.inr ⟨by simp,(m.push (.cells [.int kw nw] 0 0 false (some (2 * e)))).next,0,0,some (2 * e),by omega,rfl,by show B ≤ m.next + 1; omega,by show m.next + 1 < m.next + 1 + 1; omega,?_⟩⟩
  rw [Mem.get_push,if_pos rfl]
  rfl
 ·have hfit:fits (vs.length + 1) bytes=true:=hl _ (Nat.le_refl _)
  have hb2:(m.push (.cells [.int kw nw] 0 0 false (some (2 * e)))).get b=some (.cells vs ver 0 false ty):=by rw [Mem.get_push,if_neg (by omega)]; exact h4
  have:r=0∨r=1:=by omega
  rcases this with rfl | rfl
  ·obtain ⟨m',k1,k2⟩:=Xmo (e:=e) (bytes:=bytes) (len:=vs.length) (size:=1) hb2 hg rfl rfl (Nat.le_refl 1) (Nat.zero_le _) (by simp) hfit
   refine ⟨_,_,m',hb,k1,(hF.trans ((Fb.refl B _).put _ h2)).meq k2,.inr ⟨by simp,b,ver + 1,0,tyOf ty (2 * e),by omega,by simp,h2,?_,?_⟩⟩
   ·rw [k2.next,Mem.next_put]
    show b < m.next + 1
    omega
   ·rw [k2.get,Mem.get_put,if_pos rfl]
    congr 2
    simp only [Nat.mul_one]
    rw [List.take_of_length_le (by simp)]
  ·have ha:=Xvg (e:=e) (bytes:=bytes) hb2 hg rfl rfl rfl hfit
   refine ⟨_,_,_,hb,ha,hF.trans (Fb.push _ (by show B ≤ m.next + 1; omega)),.inr ⟨by simp,(m.push (.cells [.int kw nw] 0 0 false (some (2 * e)))).next,0,0,some (2 * e),by omega,by simp,by show B ≤ m.next + 1; omega,by show m.next + 1 < m.next + 1 + 1; omega,?_⟩⟩
   rw [Mem.get_push,if_pos rfl]
theorem GA.at {B:Nat} {m:Mem} {v:Value} {vs:List Value} (h:GA B m v vs) {i:Nat} {w:Value} (hw:vs[i]?=some w):∃ p,X5 1 v (.int .i64 (i:Int))=some p∧X4 false 1 p m=some w ∧
  ∀ x:Value,x.cells.size=1→x.cells.toList=[x]→one x=true→∃ m',X8 1 p x m=some m'∧Fb B m m'∧m'.next=m.next∧GA B m' v (vs.set i x)∧∀ b,(∃ len r,v=.slice (some ⟨b,0,some 1⟩) len r)∨m'.get b=m.get b:=by
 have hi:i < vs.length:=by
  by_cases hh:i < vs.length
  ·exact hh
  ·rw [List.getElem?_eq_none (by omega)] at hw; cases hw
 rcases h with ⟨rfl,rfl⟩ | ⟨hne,b,ver,r,ty,hr,rfl,h2,h3,h4⟩
 ·simp at hi
 ·refine ⟨_,Xr0 b vs.length (2 * ver + r) i hi,?_,?_⟩
  ·rw [show (2 * ver + r) / 2=ver by omega]
   exact Xt h4 hw
  ·intro x hx1 hx2 hx3
   rw [show (2 * ver + r) / 2=ver by omega]
   obtain ⟨m',k1,k2⟩:=X3f (o:=i) (n:=1) (v:=x) (c':=vs.set i x) h4 hx1 (Nat.zero_le _) (by omega) (by rw [hx2]; simp [hx3]) (by
    rw [hx2,List.set_eq_take_append_cons_drop,if_pos hi]; simp)
   refine ⟨m',k1,((Fb.refl B m).put _ h2).meq k2,by rw [k2.next,Mem.next_put],.inr ⟨?_,b,ver,r,ty,hr,by rw [List.length_set],h2,by rw [k2.next,Mem.next_put]; exact h3,by rw [k2.get,Mem.get_put,if_pos rfl]⟩,fun b'=>?_⟩
   ·intro h
    have:=congrArg List.length h
    simp at this
    exact hne this
   ·by_cases e:b'=b
    ·subst e; exact .inl ⟨_,_,rfl⟩
    ·right
     rw [k2.get,Mem.get_put,if_neg (by omega)]
abbrev by8 (c:UInt8):Value:=.int .u8 (c.toNat:Int)
theorem Xor:∀ l:Str,X1u (l.map by8)=some l
 | []=>rfl
 | c :: l=>by
  show (match X1u (l.map by8) with | some l=>some (UInt8.ofNat ((c.toNat:Int)).toNat :: l) | none=>none)=_
  rw [Xor l]
  simp
theorem GA.conv {B:Nat} {m:Mem} {v:Value} {l:Str} (h:GA B m v (l.map by8)):conv .str v m=some (sv l,m):=by
 rcases h with ⟨h1,rfl⟩ | ⟨hne,b,ver,r,ty,hr,rfl,h2,h3,h4⟩
 ·have:l=[]:=by simpa using h1
  subst this; rfl
 ·show (match getCells m ⟨b,0,some ((2 * ver + r) / 2)⟩ (l.map by8).length with
   | some cs=>(match X1u cs with | some l=>some (Value.string ⟨l.toArray⟩,m) | none=>none)
   | none=>none)=_
  rw [show (2 * ver + r) / 2=ver by omega]
  have:getCells m ⟨b,0,some ver⟩ (l.map by8).length=some (l.map by8):=by
   simp [Xv,X12,h4]
   rw [List.take_of_length_le (by simp)]
  rw [this]
  simp only [Xor]
  rfl
end Go.Ab

set_option maxRecDepth 100000
namespace Go.Ab.Sh
open Go Go.Ab Go.Lib
abbrev nI (n:Nat):Value:=I (n:Int)
def dl (N:Nat):List Nat:=if h:N < 10 then [N] else N % 10 :: dl (N / 10)
termination_by N
decreasing_by omega
end Go.Ab.Sh

set_option maxRecDepth 100000
namespace Go.Ab
open Go
inductive Lf where | b | i (k:IntKind) | s
inductive Fits:List Lf→List Value→Prop where
 | nil:Fits [] []
 | b {L:List Lf} {cs:List Value} (x:Bool) (h:Fits L cs):Fits (.b :: L) (.bool x :: cs)
 | i {L:List Lf} {cs:List Value} (k:IntKind) (z:Int) (w:(Lit.int k z).wf=true) (h:Fits L cs):Fits (.i k :: L) (.int k z :: cs)
 | s {L:List Lf} {cs:List Value} (x:ByteArray) (h:Fits L cs):Fits (.s :: L) (.string x :: cs)
theorem Fits.app {L M:List Lf} {a b:List Value} (h:Fits L a) (k:Fits M b):Fits (L ++ M) (a ++ b):=by
 induction h with
 | nil=>exact k
 | b x _ ih=>exact .b x ih
 | i k z w _ ih=>exact .i k z w ih
 | s x _ ih=>exact .s x ih
def strs:List Value→Nat
 | []=>0
 | .string x :: r=>x.size + strs r
 | _ :: r=>strs r
theorem Xni:∀ a b:List Value,strs (a ++ b)=strs a + strs b
 | [],b=>by simp [strs]
 | v :: a,b=>by
  have ih:=Xni a b
  cases v <;> simp only [List.cons_append,strs,ih] <;> omega
def layF (P:Program) (g:TypeId→Option (List Lf)):List Field→Nat→Option (List Lf)
 | [],_=>some []
 | f :: fs,o=>if f.offset=o then (match g f.type with
  | none=>none
  | some L=>if P.cellsOf f.type=L.length then (match layF P g fs (o + L.length) with | none=>none | some R=>some (L ++ R)) else none) else none
def layT (P:Program):Nat→TypeId→Option (List Lf)
 | 0,_=>none
 | n + 1,t=>match P.underlying t with
  | some .bool=>some [.b]
  | some (.int k)=>some [.i k]
  | some .string=>some [.s]
  | some (.struct fs)=>(match layF P (layT P n) fs.toList 0 with
   | some L=>if P.cellsOf t=L.length then some L else none
   | none=>none)
  | _=>none
section
variable {H:Type} {enc:TypeId × Value→H} {P:Program}
structure Bulk (H:Type) where
 one:DataW H→Nat
 all:List (DataW H)→Nat
 str:∀ l,one (.lit (.string l))=l.length + 1
 agg:∀ l,one (.agg l)=all l + 1
 cons:∀ d l,all (d :: l)=one d + all l
def Reads (B:Bulk H) (enc:TypeId × Value→H) (P:Program) (fuel:Nat) (t:TypeId) (L:List Lf) (cs:List Value) (d:DataW H) (ps:List MemPlace):Prop:=
 Fits L cs∧ps=[]∧strs cs ≤ B.one d∧∀ (w:World) (base:Nat) (sp:Nat→Bool) (held:Bool),DataW.trod enc P w base sp held fuel t cs=some (d,[])
theorem Xff (B:Bulk H) {w:World} {base:Nat} {sp:Nat→Bool} {held:Bool} {fuel:Nat} {g:TypeId→Option (List Lf)}
  (hg:∀ t L,g t=some L→∀ cs d ps,DataW.trod enc P w base sp held fuel t cs=some (d,ps)→Reads B enc P fuel t L cs d ps) (cs:List Value):∀ (fs:List Field) (o:Nat) (R:List Lf) (xs:List (DataW H × List MemPlace)),
  layF P g fs o=some R→o + R.length ≤ cs.length→(fs.mapM fun f=>DataW.trod enc P w base sp held fuel f.type ((cs.drop f.offset).take (P.cellsOf f.type)))=some xs →
  Fits R ((cs.drop o).take R.length)∧xs.flatMap (·.2)=[]∧strs ((cs.drop o).take R.length) ≤ B.all (xs.map (·.1)) ∧
   ∀ (w:World) (base:Nat) (sp:Nat→Bool) (held:Bool),(fs.mapM fun f=>DataW.trod enc P w base sp held fuel f.type ((cs.drop f.offset).take (P.cellsOf f.type)))=some xs
 | [],o,R,xs,hl,ho,hx=>by
  simp only [layF,Option.some.injEq] at hl
  subst hl
  simp only [List.mapM_nil,pure,Option.some.injEq] at hx
  subst hx
  exact ⟨.nil,rfl,Nat.zero_le _,fun _ _ _ _=>rfl⟩
 | f :: fs,o,R,xs,hl,ho,hx=>by
  unfold layF at hl
  split at hl
  ·rename_i hof
   cases hgt:g f.type with
   | none=>rw [hgt] at hl; cases hl
   | some L =>
    rw [hgt] at hl
    simp only at hl
    split at hl
    ·rename_i hc
     cases hR:layF P g fs (o + L.length) with
     | none=>rw [hR] at hl; cases hl
     | some R' =>
      rw [hR] at hl
      simp only [Option.some.injEq] at hl
      subst hl
      rw [List.mapM_cons] at hx
      cases h1:DataW.trod enc P w base sp held fuel f.type ((cs.drop f.offset).take (P.cellsOf f.type)) with
      | none=>rw [h1] at hx; cases hx
      | some y =>
       cases h2:(fs.mapM fun f=>DataW.trod enc P w base sp held fuel f.type ((cs.drop f.offset).take (P.cellsOf f.type))) with
       | none=>rw [h1,h2] at hx; cases hx
       | some ys =>
        rw [h1,h2] at hx
        have hx:some (y :: ys)=some xs:=hx
        cases hx
        obtain ⟨d,ps⟩:=y
        have hof:=hof
        rw [hof,hc] at h1
        obtain ⟨a1,a2,a3,a4⟩:=hg f.type L hgt _ d ps h1
        rw [List.length_append] at ho
        obtain ⟨b1,b2,b3,b4⟩:=Xff B hg cs fs (o + L.length) R' ys hR (by omega) h2
        subst a2
        have e:(cs.drop o).take (L ++ R').length=(cs.drop o).take L.length ++ (cs.drop (o + L.length)).take R'.length:=by
         rw [List.length_append,List.take_add,List.drop_drop]
        rw [e]
        refine ⟨a1.app b1,?_,?_,?_⟩
        ·simpa using b2
        ·rw [Xni,List.map_cons,B.cons]
         show _ ≤ B.one d + _
         omega
        ·intro w base sp held
         rw [List.mapM_cons,hof,hc,a4 w base sp held,b4 w base sp held]
         rfl
    ·cases hl
  ·cases hl
theorem lay_reads (B:Bulk H) {w:World} {base:Nat} {sp:Nat→Bool} {held:Bool}:∀ (n:Nat) (t:TypeId) (L:List Lf),layT P n t=some L→∀ (fuel:Nat) (cs:List Value) (d:DataW H) (ps:List MemPlace),DataW.trod enc P w base sp held fuel t cs=some (d,ps)→Reads B enc P fuel t L cs d ps
 | 0,t,L,hl,fuel,cs,d,ps,h=>by cases hl
 | n + 1,t,L,hl,0,cs,d,ps,h=>by cases h
 | n + 1,t,L,hl,fuel + 1,cs,d,ps,h=>by
  unfold layT at hl
  cases hu:P.underlying t with
  | none=>rw [hu] at hl; cases hl
  | some T =>
   rw [hu] at hl
   cases T <;> simp only at hl
   case bool =>
    cases hl
    unfold DataW.trod at h
    rw [hu] at h
    match cs,h with
    | [.bool x],h =>
     simp only [Option.some.injEq,Prod.mk.injEq] at h
     obtain ⟨rfl,rfl⟩:=h
     exact ⟨.b x .nil,rfl,Nat.zero_le _,fun _ _ _ _=>by unfold DataW.trod; rw [hu]⟩
   case int k =>
    cases hl
    unfold DataW.trod at h
    rw [hu] at h
    match cs,h with
    | [.int k' z],h =>
     simp only at h
     split at h
     ·rename_i hk
      simp only [Option.some.injEq,Prod.mk.injEq] at h
      obtain ⟨rfl,rfl⟩:=h
      obtain ⟨rfl,hw⟩:=hk
      exact ⟨.i k' z hw .nil,rfl,Nat.zero_le _,fun _ _ _ _=>by unfold DataW.trod; rw [hu]; simp [hw]⟩
     ·cases h
   case string =>
    cases hl
    unfold DataW.trod at h
    rw [hu] at h
    match cs,h with
    | [.string x],h =>
     simp only at h
     split at h
     ·rename_i hk
      simp only [Option.some.injEq,Prod.mk.injEq] at h
      obtain ⟨rfl,rfl⟩:=h
      refine ⟨.s x .nil,rfl,?_,fun _ _ _ _=>by unfold DataW.trod; rw [hu]; simp only; rw [if_pos hk]⟩
      rw [B.str,Array.length_toList]
      show x.size + 0 ≤ x.size + 1
      omega
     ·cases h
   case struct fs =>
    cases hR:layF P (layT P n) fs.toList 0 with
    | none=>rw [hR] at hl; cases hl
    | some R =>
     rw [hR] at hl
     simp only at hl
     split at hl
     ·rename_i hc
      obtain rfl:R=L:=Option.some.inj hl
      unfold DataW.trod at h
      rw [hu] at h
      simp only at h
      split at h
      ·rename_i hlen
       cases hx:(fs.toList.mapM fun f=>DataW.trod enc P w base sp held fuel f.type ((cs.drop f.offset).take (P.cellsOf f.type))) with
       | none=>rw [hx] at h; cases h
       | some xs =>
        rw [hx] at h
        simp only [Option.map_some,Option.some.injEq,Prod.mk.injEq] at h
        obtain ⟨rfl,rfl⟩:=h
        obtain ⟨a1,a2,a3,a4⟩:=Xff B (fun t L ht cs d ps hh=>lay_reads B n t L ht fuel cs d ps hh) cs fs.toList 0 R xs hR (by omega) hx
        have e:(cs.drop 0).take R.length=cs:=by rw [List.drop_zero,← hc,← hlen,List.take_length]
        rw [e] at a1 a3
        refine ⟨a1,a2,by rw [B.agg]; omega,fun w' base' sp' held'=>?_⟩
        unfold DataW.trod
        rw [hu]
        simp only
        rw [if_pos hlen,a4 w' base' sp' held']
        simp only [Option.map_some,a2]
      ·cases h
     ·cases hl
   all_goals cases hl
theorem Xjz (B:Bulk H) {w:World} {base:Nat} {sp:Nat→Bool} {held:Bool} {n:Nat} {t:TypeId} {L:List Lf} (hl:layT P n t=some L) {v:Value} {d:DataW H} {ps:List MemPlace} (h:DataW.Trod enc P w base sp held t v d ps) :
  Fits L v.cells.toList∧ps=[]∧strs v.cells.toList ≤ B.one d∧∀ (w:World) (base:Nat) (sp:Nat→Bool) (held:Bool),DataW.Trod enc P w base sp held t v d []:=by
 obtain ⟨fuel,hf⟩:=h
 obtain ⟨a,b,c,e⟩:=lay_reads B n t L hl fuel _ d ps hf
 exact ⟨a,b,c,fun w base sp held=>⟨fuel,e w base sp held⟩⟩
end
end Go.Ab

set_option maxRecDepth 100000
namespace Go.Ab.Sh
open Go Go.Ab Go.Lib
theorem layS:layT Go.Proofs.Tryz.prog 1 Q6=some [.s]:=by kernel_rfl
theorem layQ:layT Go.Proofs.Tryz.prog 4 Qy=some [.i .u8,.s,.s,.s,.i .u8,.b,.i .i64,.i .u32,.i .i64,.i .u32,.i .i64,.i .u32,.i .u32,.i .u32,.i .u32,.i .u32,.i .u32,.i .u8,.i .u16,.i .u16,.i .i64,.i .u32]:=by kernel_rfl
theorem X96 {k:IntKind} {z:Int} {n:Nat} (h:(Lit.int k z).wf=true) (h0:k.min=0) (h1:k.max=(n:Int)):z=((z.toNat:Nat):Int)∧z.toNat ≤ n:=by
 have h2:k.min ≤ z∧z ≤ k.max:=by simpa [Lit.wf] using h
 omega
theorem wf_i64 {z:Int} (h:(Lit.int .i64 z).wf=true):-9223372036854775808 ≤ z∧z ≤ 9223372036854775807:=by
 simpa [Lit.wf,IntKind.min,IntKind.max,IntKind.signed,IntKind.bits] using h
theorem X35 {k:IntKind} {L:List Lf} {cs:List Value} (h:Fits (.i k :: L) cs):∃ z r,cs=.int k z :: r∧(Lit.int k z).wf=true∧Fits L r:=by
 cases h with | i k z w h=>exact ⟨z,_,rfl,w,h⟩
theorem Xrk {L:List Lf} {cs:List Value} (h:Fits (.s :: L) cs):∃ x r,cs=.string x :: r∧Fits L r:=by
 cases h with | s x h=>exact ⟨x,_,rfl,h⟩
theorem X11i {L:List Lf} {cs:List Value} (h:Fits (.b :: L) cs):∃ x r,cs=.bool x :: r∧Fits L r:=by
 cases h with | b x h=>exact ⟨x,_,rfl,h⟩
theorem X11z {cs:List Value} (h:Fits [] cs):cs=[]:=by cases h; rfl
theorem Xnh {z:Int} (h:-9223372036854775808 ≤ z∧z ≤ 9223372036854775807):X7c z=true:=by
 cases z with
 | ofNat n=>exact X50 (by have:(Int.ofNat n)=(n:Int):=rfl; omega)
 | negSucc n=>exact Nat.blt_eq.mpr (by omega)
theorem X11e {cs:List Value} (h:Fits [.i .u8,.s,.s,.s,.i .u8,.b,.i .i64,.i .u32,.i .i64,.i .u32,.i .i64,.i .u32,.i .u32,.i .u32,.i .u32,.i .u32,.i .u32,.i .u8,.i .u16,.i .u16,.i .i64,.i .u32] cs) (hs:strs cs ≤ 4000000) :
  ∃ q:QN,QOk q∧q.dev.length + q.ifc.length + q.vrf.length ≤ 4000000∧cs=qC q:=by
 obtain ⟨a0,r0,rfl,w0,h0⟩:=X35 h
 obtain ⟨x1,r1,rfl,h1⟩:=Xrk h0
 obtain ⟨x2,r2,rfl,h2⟩:=Xrk h1
 obtain ⟨x3,r3,rfl,h3⟩:=Xrk h2
 obtain ⟨a4,r4,rfl,w4,h4⟩:=X35 h3
 obtain ⟨x5,r5,rfl,h5⟩:=X11i h4
 obtain ⟨a6,r6,rfl,w6,h6⟩:=X35 h5
 obtain ⟨a7,r7,rfl,w7,h7⟩:=X35 h6
 obtain ⟨a8,r8,rfl,w8,h8⟩:=X35 h7
 obtain ⟨a9,r9,rfl,w9,h9⟩:=X35 h8
 obtain ⟨a10,r10,rfl,w10,h10⟩:=X35 h9
 obtain ⟨a11,r11,rfl,w11,h11⟩:=X35 h10
 obtain ⟨a12,r12,rfl,w12,h12⟩:=X35 h11
 obtain ⟨a13,r13,rfl,w13,h13⟩:=X35 h12
 obtain ⟨a14,r14,rfl,w14,h14⟩:=X35 h13
 obtain ⟨a15,r15,rfl,w15,h15⟩:=X35 h14
 obtain ⟨a16,r16,rfl,w16,h16⟩:=X35 h15
 obtain ⟨a17,r17,rfl,w17,h17⟩:=X35 h16
 obtain ⟨a18,r18,rfl,w18,h18⟩:=X35 h17
 obtain ⟨a19,r19,rfl,w19,h19⟩:=X35 h18
 obtain ⟨a20,r20,rfl,w20,h20⟩:=X35 h19
 obtain ⟨a21,r21,rfl,w21,h21⟩:=X35 h20
 obtain rfl:=X11z h21
 obtain ⟨e0,l0⟩:=X96 (n:=255) w0 rfl rfl
 obtain ⟨e4,l4⟩:=X96 (n:=255) w4 rfl rfl
 obtain ⟨e7,l7⟩:=X96 (n:=4294967295) w7 rfl rfl
 obtain ⟨e9,l9⟩:=X96 (n:=4294967295) w9 rfl rfl
 obtain ⟨e11,l11⟩:=X96 (n:=4294967295) w11 rfl rfl
 obtain ⟨e12,l12⟩:=X96 (n:=4294967295) w12 rfl rfl
 obtain ⟨e13,l13⟩:=X96 (n:=4294967295) w13 rfl rfl
 obtain ⟨e14,l14⟩:=X96 (n:=4294967295) w14 rfl rfl
 obtain ⟨e15,l15⟩:=X96 (n:=4294967295) w15 rfl rfl
 obtain ⟨e16,l16⟩:=X96 (n:=4294967295) w16 rfl rfl
 obtain ⟨e17,l17⟩:=X96 (n:=255) w17 rfl rfl
 obtain ⟨e18,l18⟩:=X96 (n:=65535) w18 rfl rfl
 obtain ⟨e19,l19⟩:=X96 (n:=65535) w19 rfl rfl
 obtain ⟨e21,l21⟩:=X96 (n:=4294967295) w21 rfl rfl
 have b6:=wf_i64 w6
 have b8:=wf_i64 w8
 have b10:=wf_i64 w10
 have b20:=wf_i64 w20
 have hs:x1.size + (x2.size + (x3.size + 0)) ≤ 4000000:=hs
 have z1:x1.data.toList.length=x1.size:=by rw [Array.length_toList]; rfl
 have z2:x2.data.toList.length=x2.size:=by rw [Array.length_toList]; rfl
 have z3:x3.data.toList.length=x3.size:=by rw [Array.length_toList]; rfl
 have y1:x1.data.toList.length ≤ 4194304:=by omega
 have y2:x2.data.toList.length ≤ 4194304:=by omega
 have y3:x3.data.toList.length ≤ 4194304:=by omega
 have y4:x1.data.toList.length + x2.data.toList.length + x3.data.toList.length ≤ 4000000:=by omega
 refine ⟨⟨a0.toNat,x1.data.toList,x2.data.toList,x3.data.toList,a4.toNat,⟨x5,a6,a7.toNat,a8,a9.toNat,a10,a11.toNat,a12.toNat,a13.toNat,a14.toNat⟩,a15.toNat,a16.toNat,a17.toNat,a18.toNat,a19.toNat,a20,a21.toNat⟩,
  ⟨Nat.lt_succ_of_le l0,y1,y2,y3,Nat.lt_succ_of_le l4,⟨Xnh b6,Nat.lt_succ_of_le l7,Xnh b8,Nat.lt_succ_of_le l9,Xnh b10,Nat.lt_succ_of_le l11,Nat.lt_succ_of_le l12,Nat.lt_succ_of_le l13,Nat.lt_succ_of_le l14⟩,Nat.lt_succ_of_le l15,Nat.lt_succ_of_le l16,l17,l18,l19,Xnh b20,Nat.lt_succ_of_le l21⟩,y4,?_⟩
 show _=([.int .u8 ((a0.toNat:Nat):Int),.string x1,.string x2,.string x3,.int .u8 ((a4.toNat:Nat):Int),.bool x5,.int .i64 a6,.int .u32 ((a7.toNat:Nat):Int),.int .i64 a8,.int .u32 ((a9.toNat:Nat):Int),.int .i64 a10,.int .u32 ((a11.toNat:Nat):Int),.int .u32 ((a12.toNat:Nat):Int),.int .u32 ((a13.toNat:Nat):Int),.int .u32 ((a14.toNat:Nat):Int),
  .int .u32 ((a15.toNat:Nat):Int),.int .u32 ((a16.toNat:Nat):Int),.int .u8 ((a17.toNat:Nat):Int),.int .u16 ((a18.toNat:Nat):Int),.int .u16 ((a19.toNat:Nat):Int),.int .i64 a20,.int .u32 ((a21.toNat:Nat):Int)]:List Value)
 rw [← e0,← e4,← e7,← e9,← e11,← e12,← e13,← e14,← e15,← e16,← e17,← e18,← e19,← e21]
theorem Xli {P:Program} {W:World} {g:Tab} (hT:Xx P W g) {f:FuncId} {fn:Func} {c:Code} (hf:P.funcs[f]?=some fn) (hb:fn.body=some c) (hn:(fn.name == "runtime.NumGoroutine")=false) (args:List Value) (ha:∀ φ,VRels φ args args) {v:Value} {m':Mem}
  (hg:g f args mem0=some (v,m')) (hpl:∀ φ cv,VRel φ v cv→cv=v):Calls P f args.toArray W fun e w'=>e=.returned v∧RowKit.Below W.heap.size W w':=by
 have h:=hT (fun _=>none) mem0 W f args args v m' (Xwy W) (RowKit.Below.refl _ _) (ha _) hg
 rcases h with ⟨_,h⟩ | ⟨cv,w',h,_⟩
 ·refine h.mono fun e w' he=>?_
  obtain ⟨cv,rfl,φ',_,h2,h3⟩:=he
  rw [hpl φ' cv h2]
  exact ⟨rfl,⟨h3.os,h3.tape,h3.output,h3.size,fun k hk=>h3.frame k hk fun b pl hh=>nomatch hh⟩⟩
 ·have:=enters hf hb hn args.toArray W
  change (callFunc f args.toArray).run P W=_ at h
  rw [this] at h
  cases h
theorem X138 (φ:Pmap) (q:QN):VRel φ (qV q) (qV q):=by
 refine .agg _ _ ?_
 show VRels φ (qC q) (qC q)
 unfold qC
 repeat (first | exact .nil | refine .cons _ _ _ _ (by first | exact .int _ _ | exact .bool _ | exact .string _) ?_)
end Go.Ab.Sh

set_option maxRecDepth 100000
namespace Go.Ab.Sh
open Go Go.Ab Go.Lib
theorem c_works (d:Nat) (m:Mem):TA d Q1o [] m=some (.bool true,m):=by
 refine Xhd (o:=Q1ap) (by kernel_rfl) ?_ d
 show Mw.ov Q1o [] m=_
 unfold Memo.ov
 have h1:Nat.beq Q1o Mw.f=true:=Nat.beq_refl _
 have h2:Xdd (vbeq 9) [] Mw.args=true:=rfl
 have h3:Mw.nextOk m=true:=rfl
 have h4:holds m Mw.old=true:=rfl
 rw [h1,h2,h3,h4]
 rfl
theorem Xqv (φ:Pmap) (s:Str) (q:QN):VRels φ [sv s,qV q] [sv s,qV q]:=
 .cons _ _ _ _ (.string _) (.cons _ _ _ _ (X138 φ q) .nil)
theorem Xqa {W:World} (hT:∀ n,Xx Go.Proofs.Tryz.prog W (TA n)) {fn:Func} {c:Code} (hf:Go.Proofs.Tryz.prog.funcs[Q3n]?=some fn) (hb:fn.body=some c) (hn:(fn.name == "runtime.NumGoroutine")=false)
  (s:Str) (q:QN) (hs:s.length ≤ 4194304) (hq:QOk q) (hl:q.dev.length + q.ifc.length + q.vrf.length ≤ 4000000) :
  Calls Go.Proofs.Tryz.prog Q3n #[sv s,qV q] W fun e w'=>e=.returned (.bool true)∧RowKit.Below W.heap.size W w':=
 Xli (hT 9) hf hb hn [sv s,qV q] (fun φ=>Xqv φ s q) (c_AskBack s q hs hq hl 0 (fun m=>c_works 8 m) mem0) (fun φ cv h=>Xt8 h)
end Go.Ab.Sh
