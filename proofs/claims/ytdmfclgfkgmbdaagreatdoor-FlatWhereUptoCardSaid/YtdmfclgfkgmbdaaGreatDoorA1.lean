/-
  What the functions of the program answer, at every text and every question. No conditions.
-/
import Derived.Test.YtdmfclgfkgmbdaaGreatDoorA0
set_option linter.unusedSimpArgs false
set_option linter.unusedVariables false
set_option maxRecDepth 100000
namespace Go.Ab
open Go Go.Lib
theorem getB (l:Str) (i:Nat) (h:i < l.length):(⟨⟨l⟩⟩:ByteArray).get! i=l[i]:=by
 show (⟨l⟩:Array UInt8)[i]! = _
 rw [getElem!_pos (⟨l⟩:Array UInt8) i h]
 rfl
theorem Xu3 (l:Str) (i:Nat) (h:i < l.length) (hc:(l[i]).toNat < 128):Utf8.decode ⟨⟨l⟩⟩ i=((l[i]).toNat,1):=by
 unfold Utf8.decode
 simp only [Nat.add_zero,getB l i h]
 rw [if_pos hc]
theorem Xxx (l:Str) (i:Nat) (h:i < l.length) (hc:128 ≤ (l[i]).toNat):128 ≤ (Utf8.decode ⟨⟨l⟩⟩ i).1∧((Utf8.decode ⟨⟨l⟩⟩ i).1=65533∨Utf8.valid ((Utf8.decode ⟨⟨l⟩⟩ i).1:Int)=true):=by
 unfold Utf8.decode
 simp only [Nat.add_zero,getB l i h]
 rw [if_neg (by omega)]
 split
 ·rename_i h2
  split
  ·rename_i h3
   refine ⟨h3,.inr ?_⟩
   have:=Nat.mod_lt (l[i]).toNat (by omega:0 < 32)
   have:=Nat.mod_lt ((⟨⟨l⟩⟩:ByteArray).get! (i + 1)).toNat (by omega:0 < 64)
   unfold Utf8.valid
   simp
   omega
  ·exact ⟨by show 128 ≤ Utf8.runeError; unfold Utf8.runeError; omega,.inl rfl⟩
 ·split
  ·split
   ·rename_i h3
    simp only [Bool.and_eq_true,decide_eq_true_eq] at h3
    exact ⟨by have:=h3.1; omega,.inr h3.2⟩
   ·exact ⟨by show 128 ≤ Utf8.runeError; unfold Utf8.runeError; omega,.inl rfl⟩
  ·split
   ·split
    ·rename_i h3
     simp only [Bool.and_eq_true,decide_eq_true_eq] at h3
     exact ⟨by have:=h3.1; omega,.inr h3.2⟩
    ·exact ⟨by show 128 ≤ Utf8.runeError; unfold Utf8.runeError; omega,.inl rfl⟩
   ·exact ⟨by show 128 ≤ Utf8.runeError; unfold Utf8.runeError; omega,.inl rfl⟩
def isL (c:UInt8):Bool:=decide (97 ≤ c.toNat∧c.toNat ≤ 122∨65 ≤ c.toNat∧c.toNat ≤ 90)
def isO (c:UInt8):Bool:=decide (48 ≤ c.toNat∧c.toNat ≤ 57∨c.toNat=45∨c.toNat=95∨c.toNat=46∨c.toNat=47)
def Xqk (s:Str):Bool:=match s with
 | []=>false
 | a :: r=>decide (s.length ≤ 32) && (isL a && r.all fun c=>isL c || isO c)
def nmGo:Bool→Str→Bool
 | _,[]=>true
 | true,a :: r=>isL a && nmGo false r
 | false,a :: r=>(isL a || isO a) && nmGo false r
theorem Xf6:∀ (r:Str),nmGo false r=r.all fun c=>isL c || isO c
 | []=>rfl
 | a :: r=>by
  show ((isL a || isO a) && nmGo false r)=_
  rw [Xf6 r]; rfl
theorem Xt4 (s:Str):Xqk s=(decide (s ≠ []) && (decide (s.length ≤ 32) && nmGo true s)):=by
 cases s with
 | nil=>rfl
 | cons a r =>
  show (decide _ && (isL a && r.all _))=(decide _ && (decide _ && (isL a && nmGo false r)))
  rw [Xf6]
  simp
end Go.Ab
namespace Go.Ab.Sh
open Go Go.Ab Go.Lib
theorem c_IdxByte (s:Str) (c:Nat) (hc:c < 256) (d:Nat) (m:Mem):TA d Q1d [sv s,.int .u8 (c:Int)] m=some (I (indexByte s (UInt8.ofNat c)),m):=by
 refine Xes (o:=Ql4) (by kernel_rfl) ?_ d
 show (if Q1d=Q1d∧IntKind.u8=IntKind.u8 then (match some (Xdn s (c:Int)) with | some v=>some (v,m) | none=>none) else none)=_
 rw [if_pos ⟨rfl,rfl⟩,Xfh,Int.toNat_natCast]
theorem c_IndexByte (s:Str) (c:Nat) (hc:c < 256) (d:Nat) (m:Mem):TA (d + 1) Q6o [sv s,.int .u8 (c:Int)] m=some (I (indexByte s (UInt8.ofNat c)),m):=by
 rw [X8g]
 refine X1x (m1:=withLow m m.next) ?_ (.refl _ _) rfl
 unfold Q4c
 simp only [c_IdxByte s c hc,X6]
abbrev odd4:Str:=[45,95,46,47]
theorem Xp1 (c:UInt8):(indexByte odd4 c < 0) ↔ ¬ (c.toNat=45∨c.toNat=95∨c.toNat=46∨c.toNat=47):=by
 by_cases h1:c=45
 ·subst h1; decide
 by_cases h2:c=95
 ·subst h2; decide
 by_cases h3:c=46
 ·subst h3; decide
 by_cases h4:c=47
 ·subst h4; decide
 have n1:¬ c.toNat=45:=fun h=>h1 (UInt8.toNat_inj.mp h)
 have n2:¬ c.toNat=95:=fun h=>h2 (UInt8.toNat_inj.mp h)
 have n3:¬ c.toNat=46:=fun h=>h3 (UInt8.toNat_inj.mp h)
 have n4:¬ c.toNat=47:=fun h=>h4 (UInt8.toNat_inj.mp h)
 have e1:((45:UInt8) == c)=false:=by simp; exact fun h=>h1 h.symm
 have e2:((95:UInt8) == c)=false:=by simp; exact fun h=>h2 h.symm
 have e3:((46:UInt8) == c)=false:=by simp; exact fun h=>h3 h.symm
 have e4:((47:UInt8) == c)=false:=by simp; exact fun h=>h4 h.symm
 simp [indexByte,e1,e2,e3,e4,n1,n2,n3,n4]
theorem Xse (l:Str) (c:UInt8) (hc:128 ≤ c.toNat) (hl:∀ x ∈ l,x.toNat < 128):indexByte l c=-1:=by
 induction l with
 | nil=>rfl
 | cons a l ih =>
  have e:(a == c)=false:=by
   simp
   intro h
   subst h
   have:=hl a (by simp)
   omega
  unfold indexByte
  rw [e,ih (fun x hx=>hl x (List.mem_cons_of_mem _ hx))]
  rfl
theorem c_Rune_lo (c:Nat) (hc:c < 128) (d:Nat) (m:Mem):TA (d + 2) Q2a [sv odd4,.int .i32 (c:Int)] m=some (I (indexByte odd4 (UInt8.ofNat c)),m):=by
 rw [X47]
 refine X1x (m1:=withLow m m.next) ?_ (.refl _ _) rfl
 have w:IntKind.u8.wrap (c:Int)=c:=by rw [IntWalk.u8_in _ (by omega)]
 unfold Q2b Q5e Q3i
 simp only [Qhj,X4,Xt,if_pos (Int.natCast_nonneg c),Qw,if_pos (by omega:(c:Int) < 128),c_int,w,X6,c_IndexByte odd4 c (by omega)]
theorem c_ValidRune (c:Nat) (hv:Utf8.valid (c:Int)=true) (d:Nat) (m:Mem):TA (d + 1) Q60 [.int .i32 (c:Int)] m=some (.bool true,m):=by
 rw [X58]
 refine X1x (m1:=withLow m m.next) ?_ (.refl _ _) rfl
 unfold Utf8.valid at hv
 simp at hv
 unfold Q2c Q7n Q50 Q51
 simp only [Qhj,X4,Xt,if_pos (Int.natCast_nonneg c),Qw]
 by_cases h1:(c:Int) < 55296
 ·rw [if_pos h1]
 ·rw [if_neg h1,if_pos (by omega),if_pos (by omega)]
theorem Xsm (c:Nat) (h:128 ≤ c) (hv:Utf8.valid (c:Int)=true):∃ pre x,Utf8.encode (c:Int)=⟨⟨pre ++ [x]⟩⟩∧1 ≤ pre.length∧pre.length ≤ 3∧128 ≤ x.toNat:=by
 have hx:128 ≤ (UInt8.ofNat (0x80 + c % 64)).toNat:=by
  have:=Nat.mod_lt c (by omega:0 < 64)
  rw [UInt8.toNat_ofNat']
  omega
 unfold Utf8.encode
 simp only [hv,if_true,Int.toNat_natCast]
 rw [if_neg (by omega)]
 split
 ·exact ⟨[UInt8.ofNat (0xC0 + c / 64)],UInt8.ofNat (0x80 + c % 64),rfl,by simp,by simp,hx⟩
 ·split
  ·exact ⟨[UInt8.ofNat (0xE0 + c / 4096),UInt8.ofNat (0x80 + c / 64 % 64)],UInt8.ofNat (0x80 + c % 64),rfl,by simp,by simp,hx⟩
  ·exact ⟨[UInt8.ofNat (0xF0 + c / 262144),UInt8.ofNat (0x80 + c / 4096 % 64),UInt8.ofNat (0x80 + c / 64 % 64)],UInt8.ofNat (0x80 + c % 64),rfl,by simp,by simp,hx⟩
theorem Xvz (l:Str) (k:Nat) (hk:k ≤ l.length) (z:Int) (hz:z=k):X11 (sv l) (some (I z)) none=some (sv (l.drop k)):=by subst hz; exact Xa8 l k hk
theorem c_Rune_hi (c:Nat) (hc:128 ≤ c) (hv:c=65533∨Utf8.valid (c:Int)=true) (d:Nat) (m:Mem):TA (d + 3) Q2a [sv odd4,.int .i32 (c:Int)] m=some (I (-1),m):=by
 rw [X47]
 have h0:¬ ((c:Int) < 128):=by omega
 by_cases he:c=65533
 ·subst he
  have nx:∀ (m:Mem) (b i:Nat),m.get b=some (.siter ⟨⟨odd4⟩⟩ i)→(hi:i < 4)→X3w (pt b 0 0) m=some (.tuple ⟨[.bool true,I i,.int .i32 ((odd4[i]).toNat:Int)]⟩,m.put b (.siter ⟨⟨odd4⟩⟩ (i + 1))):=by
   intro m b i hg hi
   have hdec:Utf8.decode ⟨⟨odd4⟩⟩ i=((odd4[i]).toNat,1):=Xu3 odd4 i hi (by
    have hlow:∀ y ∈ odd4,y.toNat < 128:=by decide
    exact hlow _ (List.getElem_mem _))
   show (match m.get b with
    | some (.siter s pos)=>if pos < s.size then (let (c,w):=Utf8.decode s pos; some (Value.tuple #[.bool true,.int .i64 pos,.int .i32 c],m.put b (.siter s (pos + w)))) else some (Value.tuple #[.bool false],m)
    | _=>none)=_
   rw [hg]
   show (if i < 4 then (let (c,w):=Utf8.decode ⟨⟨odd4⟩⟩ i; some (Value.tuple #[.bool true,.int .i64 i,.int .i32 c],m.put b (.siter ⟨⟨odd4⟩⟩ (i + w)))) else some (Value.tuple #[.bool false],m))=_
   rw [if_pos hi,hdec]
  have nE:∀ (m:Mem) (b:Nat),m.get b=some (.siter ⟨⟨odd4⟩⟩ 4)→X3w (pt b 0 0) m=some (.tuple ⟨[.bool false]⟩,m):=by
   intro m b hg
   show (match m.get b with
    | some (.siter s pos)=>if pos < s.size then (let (c,w):=Utf8.decode s pos; some (Value.tuple #[.bool true,.int .i64 pos,.int .i32 c],m.put b (.siter s (pos + w)))) else some (Value.tuple #[.bool false],m)
    | _=>none)=_
   rw [hg]
   rfl
  have loop:∀ (k i j:Nat) (m1:Mem) (b:Nat),i + k=4→k < j→m.next ≤ b→m1.get b=some (.siter ⟨⟨odd4⟩⟩ i)→∃ m2,Q3j ⟨TA (d + 2),18446744073709551616⟩ j (pt b 0 0) m1=some (I (-1),m2)∧Fb m.next m1 m2:=by
   intro k
   induction k with
   | zero =>
    intro i j m1 b hi hj hb hg
    obtain ⟨j,rfl⟩:∃ q,j=q + 1:=⟨j - 1,by omega⟩
    have hi4:i=4:=by omega
    subst hi4
    refine ⟨m1,?_,.refl _ _⟩
    unfold Q3j Qaq
    simp only [nE m1 b hg,X6,ex0,X4,Xa]
   | succ k ih =>
    intro i j m1 b hi hj hb hg
    obtain ⟨j,rfl⟩:∃ q,j=q + 1:=⟨j - 1,by omega⟩
    obtain ⟨m2,q1,q2⟩:=ih (i + 1) j (m1.put b (.siter ⟨⟨odd4⟩⟩ (i + 1))) b (by omega) (by omega) hb (by rw [Mem.get_put,if_pos rfl])
    refine ⟨m2,?_,((Fb.refl _ _).put _ hb).trans q2⟩
    have hne:¬ (((odd4[i]'(by show i < 4; omega)).toNat:Int)=65533):=by
     have:=UInt8.toNat_lt (odd4[i]'(by show i < 4; omega))
     omega
    unfold Q3j
    simp only [nx m1 b i hg (by omega),X6,ex0,ex1,ex2,X4,Xc,Q3y,Xt,if_neg hne]
    exact q1
  obtain ⟨m2,q1,q2⟩:=loop 4 0 18446744073709551616 ((withLow m m.next).push (.siter ⟨⟨odd4⟩⟩ 0)) m.next rfl (by omega) (Nat.le_refl _) (Xat (withLow m m.next) _)
  refine X1x (m1:=m2) ?_ ((Fb.push (m:=withLow m m.next) _ (Nat.le_refl _)).trans q2) rfl
  have hr:X3i (sv odd4) (withLow m m.next)=some (pt m.next 0 0,(withLow m m.next).push (.siter ⟨⟨odd4⟩⟩ 0)):=rfl
  unfold Q2b Q5e Q3i Q7d Qar
  simp only [Qhj,X4,Xt,if_pos (Int.natCast_nonneg 65533),Qw,if_neg h0,Q3y]
  rw [if_pos (by rfl)]
  simp only [hr,X6]
  exact q1
 ·have hv:Utf8.valid (c:Int)=true:=hv.resolve_left he
  obtain ⟨pre,x,e1,e2,e3,e4⟩:=Xsm c hc hv
  refine X1x (m1:=withLow m m.next) ?_ (.refl _ _) rfl
  have hcv:conv .intStr (.int .i32 (c:Int)) (withLow m m.next)=some (sv (pre ++ [x]),withLow m m.next):=by
   show some (Value.string (Utf8.encode (c:Int)),withLow m m.next)=_
   rw [e1]; rfl
  have w1:IntKind.i64.wrap (((pre ++ [x]).length:Int) - 1)=(pre.length:Int):=by rw [IntWalk.i64_in _ (by simp; omega)]; simp
  have w2:IntKind.i64.wrap ((pre.length:Int) + 1)=((pre.length + 1:Nat):Int):=by rw [IntWalk.i64_in _ (by omega)]; omega
  have hne:¬ ((c:Int)=65533):=by omega
  have lt4:(pre.length:Int) < (odd4.length:Int):=by show (pre.length:Int) < (4:Nat); omega
  have o4:odd4.length=4:=rfl
  have hlow:∀ y ∈ odd4,y.toNat < 128:=by decide
  have hix:(odd4[pre.length]'(by rw [o4]; omega)).toNat < 128:=hlow _ (List.getElem_mem _)
  have hpx:(pre ++ [x])[pre.length]'(by simp)=x:=by simp
  have hxl:=UInt8.toNat_lt x
  have hd:indexByte (odd4.drop (pre.length + 1)) (UInt8.ofNat x.toNat)=-1:=by
   have:UInt8.ofNat x.toNat=x:=by apply UInt8.toNat_inj.mp; rw [UInt8.toNat_ofNat']; omega
   rw [this]
   exact Xse _ x e4 (fun y hy=>hlow y (List.mem_of_mem_drop hy))
  have cI:=c_IndexByte (odd4.drop (pre.length + 1)) x.toNat hxl (d + 1) (withLow m m.next)
  rw [hd] at cI
  unfold Q2b Q5e Q3i Q7d Qas Qat Qau Qav Q9m
  simp only [Qhj,X4,Xt,if_pos (Int.natCast_nonneg c),Qw,if_neg h0,Q3y,if_neg hne,c_ValidRune c hv (d + 1),X6,Xck,Bool.not_true,Xa,hcv,X3r,Qf0,w1]
  show Qy ⟨TA (d + 2),18446744073709551616⟩ (18446744073709551615 + 1) _ _ _ _ _=_
  unfold Qy Q9n
  have i1:=X6c odd4 .i64 pre.length (by rw [o4]; omega)
  have i2:=X6c (pre ++ [x]) .i64 pre.length (by simp)
  rw [hpx] at i2
  have hq:((odd4[pre.length]'(by rw [o4]; omega)).toNat:Int) ≠ (x.toNat:Int):=by omega
  simp only [X3r,X4,Qw,Xt,if_pos lt4,i1,i2,Q4z,if_pos hq,Q3p,w2,Xa8 odd4 (pre.length + 1) (by rw [o4]; omega),cI,X6]
  rfl
theorem Xr5 {β:Type} (c:UInt8) (f:Bool→Option β) :
  (if (97:Int) ≤ (c.toNat:Int) then (if (c.toNat:Int) ≤ 122 then f true else if (65:Int) ≤ (c.toNat:Int) then f (decide ((c.toNat:Int) ≤ 90)) else f false) else if (65:Int) ≤ (c.toNat:Int) then f (decide ((c.toNat:Int) ≤ 90)) else f false)=f (isL c):=by
 by_cases h1:(97:Int) ≤ (c.toNat:Int)
 ·rw [if_pos h1]
  by_cases h2:(c.toNat:Int) ≤ 122
  ·rw [if_pos h2,show isL c=true by unfold isL; simp; omega]
  ·rw [if_neg h2,if_pos (by omega),show decide ((c.toNat:Int) ≤ 90)=false by simp; omega,show isL c=false by unfold isL; simp; omega]
 ·rw [if_neg h1]
  by_cases h3:(65:Int) ≤ (c.toNat:Int)
  ·rw [if_pos h3]
   congr 1
   unfold isL
   rw [decide_eq_decide]
   omega
  ·rw [if_neg h3,show isL c=false by unfold isL; simp; omega]
theorem Xro {l:Str} {m:Mem} {b i:Nat} (hg:m.get b=some (.siter ⟨⟨l⟩⟩ i)) (hi:i < l.length):X3w (pt b 0 0) m=some (.tuple ⟨[.bool true,I i,.int .i32 ((Utf8.decode ⟨⟨l⟩⟩ i).1:Int)]⟩,m.put b (.siter ⟨⟨l⟩⟩ (i + (Utf8.decode ⟨⟨l⟩⟩ i).2))):=by
 show (match m.get b with
  | some (.siter s pos)=>if pos < s.size then (let (c,w):=Utf8.decode s pos; some (Value.tuple #[.bool true,.int .i64 pos,.int .i32 c],m.put b (.siter s (pos + w)))) else some (Value.tuple #[.bool false],m)
  | _=>none)=_
 rw [hg]
 show (if i < l.length then (let (c,w):=Utf8.decode ⟨⟨l⟩⟩ i; some (Value.tuple #[.bool true,.int .i64 i,.int .i32 c],m.put b (.siter ⟨⟨l⟩⟩ (i + w)))) else some (Value.tuple #[.bool false],m))=_
 rw [if_pos hi]
theorem Xt6 {l:Str} {m:Mem} {b i:Nat} (hg:m.get b=some (.siter ⟨⟨l⟩⟩ i)) (hi:¬ i < l.length):X3w (pt b 0 0) m=some (.tuple ⟨[.bool false]⟩,m):=by
 show (match m.get b with
  | some (.siter s pos)=>if pos < s.size then (let (c,w):=Utf8.decode s pos; some (Value.tuple #[.bool true,.int .i64 pos,.int .i32 c],m.put b (.siter s (pos + w)))) else some (Value.tuple #[.bool false],m)
  | _=>none)=_
 rw [hg]
 show (if i < l.length then _ else _)=_
 rw [if_neg hi]
theorem Xcl (d:Nat) (B:Nat) (s:Str) (hs:s.length ≤ 4194304) (b:Nat) (hB:B ≤ b):∀ (rest pre:Str) (m:Mem) (k:Nat),s=pre ++ rest→rest.length < k→m.get b=some (.siter ⟨⟨s⟩⟩ pre.length) →
  ∃ m1,Q2d ⟨TA (d + 3),18446744073709551616⟩ k (pt b 0 0) m=some (.bool (nmGo (decide (pre=[])) rest),m1)∧Fb B m m1
 | [],pre,m,k,he,hk,hg=>by
  obtain ⟨k,rfl⟩:∃ q,k=q + 1:=⟨k - 1,by omega⟩
  refine ⟨m,?_,.refl _ _⟩
  have hn:¬ pre.length < s.length:=by rw [he]; simp
  unfold Q2d Qff Qhx
  simp only [Xt6 hg hn,X6,ex0,X4,Xa]
  cases decide (pre=[]) <;> rfl
 | a :: rest,pre,m,k,he,hk,hg=>by
  obtain ⟨k,rfl⟩:∃ q,k=q + 1:=⟨k - 1,by omega⟩
  have hl:pre.length < s.length:=by rw [he]; simp
  have hix:s[pre.length]=a:=by simp [he]
  have e0:Value.string ⟨#[45,95,46,47]⟩=sv odd4:=rfl
  have hF:Fb B m (m.put b (.siter ⟨⟨s⟩⟩ (pre.length + (Utf8.decode ⟨⟨s⟩⟩ pre.length).2))):=(Fb.refl _ _).put _ hB
  unfold Q2d Qff Qhy Qhz
  simp only [Xro hg hl,X6,ex0,ex1,ex2,X4,Xc,Qhk,Qhj,Xt]
  by_cases hlo:a.toNat < 128
  ·have hdec:=Xu3 s pre.length hl (by rw [hix]; exact hlo)
   rw [hix] at hdec
   rw [hdec] at hF ⊢
   simp only at hF ⊢
   rw [Xr5 a fun p5=>Q61 ⟨TA (d + 3),18446744073709551616⟩ (Q2d ⟨TA (d + 3),18446744073709551616⟩ k) (.bool p5) (I pre.length) (.int .i32 (a.toNat:Int)) (pt b 0 0) (m.put b (.siter ⟨⟨s⟩⟩ (pre.length + 1)))]
   obtain ⟨m1,q1,q2⟩:=Xcl d B s hs b hB rest (pre ++ [a]) (m.put b (.siter ⟨⟨s⟩⟩ (pre.length + 1))) k (by rw [he]; simp) (by simp at hk; omega) (by rw [Mem.get_put,if_pos rfl]; simp)
   have hnp:decide (pre ++ [a]=[])=false:=by simp
   rw [hnp] at q1
   unfold Q61 Q76
   simp only [Xck,X4,Xp2]
   cases hL:isL a with
   | true =>
    refine ⟨m1,?_,hF.trans q2⟩
    simp only [Bool.not_true,Bool.false_eq_true,if_false]
    rw [q1]
    have:nmGo (decide (pre=[])) (a :: rest)=nmGo false rest:=by
     cases decide (pre=[])
     ·show ((isL a || isO a) && nmGo false rest)=_
      rw [hL]; simp
     ·show (isL a && nmGo false rest)=_
      rw [hL]; simp
    rw [this]
   | false =>
    simp only [Bool.not_false,if_true,Q3y,X4,Xt]
    by_cases hp:pre=[]
    ·subst hp
     refine ⟨_,?_,hF⟩
     rw [if_pos (by rfl)]
     have:nmGo (decide (([]:Str)=[])) (a :: rest)=false:=by
      show (isL a && nmGo false rest)=_
      rw [hL]; rfl
     rw [this]
    ·have hp0:¬ ((pre.length:Int)=0):=by
      intro h
      exact hp (List.length_eq_zero_iff.mp (by omega))
     rw [if_neg hp0]
     have hgo:nmGo (decide (pre=[])) (a :: rest)=(isO a && nmGo false rest):=by
      rw [show decide (pre=[])=false by simpa using hp]
      show ((isL a || isO a) && nmGo false rest)=_
      rw [hL]; simp
     rw [hgo]
     have ofa:UInt8.ofNat a.toNat=a:=by apply UInt8.toNat_inj.mp; rw [UInt8.toNat_ofNat']; have:=UInt8.toNat_lt a; omega
     have cR:=c_Rune_lo a.toNat hlo (d + 1) (m.put b (.siter ⟨⟨s⟩⟩ (pre.length + 1)))
     rw [ofa] at cR
     have cR:TA (d + 3) Q2a [sv odd4,.int .i32 (a.toNat:Int)] (m.put b (.siter ⟨⟨s⟩⟩ (pre.length + 1)))=_:=cR
     simp only [Qw,X4,Xt,e0,cR,X6,Qby,Xp2,decide_eq_true_eq]
     -- what is no digit is looked up
     have look:(if indexByte odd4 a < 0 then some (Value.bool false,m.put b (.siter ⟨⟨s⟩⟩ (pre.length + 1))) else Q2d ⟨TA (d + 3),18446744073709551616⟩ k (pt b 0 0) (m.put b (.siter ⟨⟨s⟩⟩ (pre.length + 1))))=some (.bool (decide (a.toNat=45∨a.toNat=95∨a.toNat=46∨a.toNat=47) && nmGo false rest),if indexByte odd4 a < 0 then m.put b (.siter ⟨⟨s⟩⟩ (pre.length + 1)) else m1):=by
      by_cases hi:indexByte odd4 a < 0
      ·rw [if_pos hi,if_pos hi]
       have:=(Xp1 a).mp hi
       rw [decide_eq_false this]; rfl
      ·rw [if_neg hi,if_neg hi,q1]
       have:a.toNat=45∨a.toNat=95∨a.toNat=46∨a.toNat=47:=Decidable.byContradiction fun h=>hi ((Xp1 a).mpr h)
       rw [decide_eq_true this]; rfl
     have hF3:Fb B m (if indexByte odd4 a < 0 then m.put b (.siter ⟨⟨s⟩⟩ (pre.length + 1)) else m1):=by
      split
      ·exact hF
      ·exact hF.trans q2
     by_cases h48:(a.toNat:Int) < 48
     ·rw [if_pos h48,look]
      refine ⟨_,?_,hF3⟩
      have:isO a=decide (a.toNat=45∨a.toNat=95∨a.toNat=46∨a.toNat=47):=by unfold isO; rw [decide_eq_decide]; omega
      rw [this]
     ·rw [if_neg h48]
      by_cases h57:(57:Int) < (a.toNat:Int)
      ·rw [if_pos h57,look]
       refine ⟨_,?_,hF3⟩
       have:isO a=decide (a.toNat=45∨a.toNat=95∨a.toNat=46∨a.toNat=47):=by unfold isO; rw [decide_eq_decide]; omega
       rw [this]
      ·rw [if_neg h57]
       refine ⟨m1,?_,hF.trans q2⟩
       simp only [Bool.false_eq_true,if_false]
       rw [q1]
       have:isO a=true:=by unfold isO; simp; omega
       rw [this]; rfl
  ·have hhi:128 ≤ a.toNat:=by omega
   obtain ⟨h1,h2⟩:=Xxx s pre.length hl (by rw [hix]; exact hhi)
   generalize hr:(Utf8.decode ⟨⟨s⟩⟩ pre.length).1=r at h1 h2
   have hLa:isL a=false:=by unfold isL; simp; omega
   have hOa:isO a=false:=by unfold isO; simp; omega
   have hgo:nmGo (decide (pre=[])) (a :: rest)=false:=by
    cases decide (pre=[])
    ·show ((isL a || isO a) && _)=_
     rw [hLa,hOa]; rfl
    ·show (isL a && _)=_
     rw [hLa]; rfl
   refine ⟨_,?_,hF⟩
   rw [hgo]
   have r1:(97:Int) ≤ (r:Int):=by omega
   have r2:¬ ((r:Int) ≤ 122):=by omega
   have r3:(65:Int) ≤ (r:Int):=by omega
   have r4:¬ ((r:Int) ≤ 90):=by omega
   have r5:¬ ((r:Int) < 48):=by omega
   have r6:(57:Int) < (r:Int):=by omega
   unfold Q61 Q76
   have cR:∀ m,TA (d + 3) Q2a [sv odd4,.int .i32 (r:Int)] m=some (I (-1),m):=fun m=>c_Rune_hi r h1 h2 d m
   have dR:decide ((r:Int) ≤ 90)=false:=decide_eq_false r4
   simp only [if_pos r1,if_neg r2,if_pos r3,dR,Xck,X4,Bool.not_false,Xc,Q3y,Xt,Qw,if_neg r5,Qby,if_pos r6,e0,cR,X6]
   by_cases hp:(pre.length:Int)=0
   ·rw [if_pos hp]
   ·rw [if_neg hp]
    rfl
end Go.Ab.Sh

set_option maxRecDepth 100000
namespace Go.Ab.Sh
open Go Go.Ab Go.Lib
theorem c_lexName (s:Str) (hs:s.length ≤ 4194304) (d:Nat) (m:Mem):TA (d + 4) Qhl [sv s] m=some (.bool (Xqk s),m):=by
 rw [Xnu]
 have e0:Value.string ⟨#[]⟩=sv []:=rfl
 rw [Xt4]
 unfold Qeb Qi0 Qf4
 simp only [e0,Qo,X4,Xt,Xc,X3r,Qby]
 by_cases h0:s=[]
 ·rw [if_pos h0,decide_eq_false (by simpa using h0)]
  exact X1x rfl (.refl _ _) rfl
 ·rw [if_neg h0,decide_eq_true h0,Bool.true_and]
  by_cases h1:(32:Int) < s.length
  ·rw [if_pos h1,decide_eq_false (by omega)]
   exact X1x rfl (.refl _ _) rfl
  ·rw [if_neg h1,decide_eq_true (by omega),Bool.true_and]
   obtain ⟨m1,q1,q2⟩:=Xcl d m.next s hs m.next (Nat.le_refl _) s [] ((withLow m m.next).push (.siter ⟨⟨s⟩⟩ 0)) 18446744073709551616 rfl (by omega) (Xat (withLow m m.next) _)
   refine X1x (m1:=m1) ?_ ((Fb.push (m:=withLow m m.next) _ (Nat.le_refl _)).trans q2) rfl
   have hr:X3i (sv s) (withLow m m.next)=some (pt m.next 0 0,(withLow m m.next).push (.siter ⟨⟨s⟩⟩ 0)):=rfl
   unfold Qi1 Qi2
   simp only [hr,X6]
   exact q1
end Go.Ab.Sh

set_option maxRecDepth 100000
namespace Go.Ab
open Go Go.Lib
end Go.Ab
namespace Go.Ab.Sh
open Go Go.Ab Go.Lib
end Go.Ab.Sh

set_option maxRecDepth 100000
namespace Go.Ab.Sh
open Go Go.Ab Go.Lib
def numV (o:Option Nat):Nat:=o.getD 0
theorem c_lexNumber' (s:Str) (hs:s.length ≤ 4194304) (most:Nat) (hm:most < 1000000000000) (d:Nat) (m:Mem) :
  TA (d + 1) Qaw [sv s,I most] m=some (.tuple ⟨[I (numV (num most s)),.bool (num most s).isSome]⟩,m):=by
 rw [c_lexNumber s hs most hm]
 cases num most s <;> rfl
end Go.Ab.Sh

set_option maxRecDepth 100000
namespace Go.Ab
open Go Go.Lib Go.Ab.Sh
structure Rl where
 permit:Bool
 proto:Int
 sa:Nat
 sb:Int
 da:Nat
 db:Int
 sl:Nat
 sh:Nat
 dl:Nat
 dh:Nat
structure RlOk (r:Rl):Prop where
 proto:Xb3 r.proto=true
 sa:r.sa < 4294967296
 sb:Xb3 r.sb=true
 da:r.da < 4294967296
 db:Xb3 r.db=true
 sl:r.sl < 4294967296
 sh:r.sh < 4294967296
 dl:r.dl < 4294967296
 dh:r.dh < 4294967296
structure Q_n where
 kind:Nat
 dev:Str
 ifc:Str
 vrf:Str
 en:Nat
 r:Rl
 a:Nat
 b:Nat
 p:Nat
 m:Nat
 n:Nat
 hops:Int
 ad:Nat
end Go.Ab
namespace Go.Ab.Sh
open Go Go.Ab Go.Lib
end Go.Ab.Sh

set_option maxRecDepth 100000
namespace Go.Ab
open Go Go.Lib Go.Ab.Sh
structure QOk (q:Q_n):Prop where
 kind:q.kind < 256
 dev:q.dev.length ≤ 4194304
 ifc:q.ifc.length ≤ 4194304
 vrf:q.vrf.length ≤ 4194304
 en:q.en < 256
 r:RlOk q.r
 a:q.a < 4294967296
 b:q.b < 4294967296
 p:q.p ≤ 255
 m:q.m ≤ 65535
 n:q.n ≤ 65535
 hops:Xb3 q.hops=true
 ad:q.ad < 4294967296
theorem QOk.hb {q:Q_n} (h:QOk q):HB q.a q.b q.p q.m q.n:=⟨h.a,h.b,h.p,h.m,h.n⟩
end Go.Ab
namespace Go.Ab.Sh
open Go Go.Ab Go.Lib
end Go.Ab.Sh

set_option maxRecDepth 100000
namespace Go.Ab
open Go Go.Lib Go.Ab.Sh
theorem Xwi {W:List Nat} {m m1:Mem} {v:Value} {x:Option Rs} (hx:x=some (v,m1)) (hF:Fr W (withLow m m.next) m1) :
  ∃ m2,outOf m x=some (v,m2)∧Fr W m m2∧m2.next ≤ m1.next∧(∀ b,b < m.next→m2.get b=m1.get b):=by
 obtain ⟨m2,k1,k2,k3,k4⟩:=Fr.call v hF
 exact ⟨m2,by rw [hx]; simp only [outOf,k1],k2,k3,k4⟩
end Go.Ab
namespace Go.Ab.Sh
open Go Go.Ab Go.Lib
end Go.Ab.Sh

set_option maxRecDepth 100000
namespace Go.Ab.Sh
open Go Go.Ab Go.Lib
inductive Fd where
 | i (k:IntKind)
 | s
 | b
 | l (r:Nat)
 | f
noncomputable def rowT:Nat→List Fd
 | 0=>[.s,.i .u8,.l 1,.l 2,.l 3,.l 5,.l 6,.l 7,.l 9,.l 12,.l 14,.l 16,.f,.s,.f,.b,.b,.i .i64]
 | 1=>[.s]
 | 2=>[.s,.s,.i .u32,.i .i64,.b,.s,.s,.i .u8,.i .i64,.i .i64,.b]
 | 3=>[.s,.l 4]
 | 4=>[.b,.i .i64,.i .u32,.i .i64,.i .u32,.i .i64,.i .u32,.i .u32,.i .u32,.i .u32]
 | 5=>[.b,.s,.i .u32]
 | 6=>[.s,.i .u32,.i .i64,.i .u32,.b,.i .i64,.i .i64]
 | 7=>[.s,.l 8]
 | 8=>[.b,.i .u32,.i .i64,.i .i64,.i .i64]
 | 9=>[.s,.l 10]
 | 10=>[.b,.l 11]
 | 11=>[.i .u32]
 | 12=>[.s,.l 13,.b]
 | 13=>[.i .i64,.i .u8,.s,.s,.i .i64,.i .i64,.i .i64,.i .i64,.i .i64,.i .i64,.l 11,.b,.l 11,.i .u32,.i .i64]
 | 14=>[.s,.i .u32,.l 15]
 | 15=>[.i .u8,.i .i64,.i .u8,.s]
 | 16=>[.s,.i .u32,.i .u32,.l 17,.l 18,.l 15]
 | 17=>[.i .u32,.i .i64]
 | 18=>[.i .u32,.i .u32,.s,.s,.b,.b]
 | _=>[.f]
noncomputable def rowL (r:Nat):Nat:=(rowT r).length
theorem Xge (r:Nat):0 < rowL r:=by
 unfold rowL rowT
 split <;> exact Nat.succ_pos _
noncomputable def fdAt (r o:Nat):Option Fd:=(rowT r)[o % rowL r]?
theorem fdAt_row (r i f:Nat) (h:f < rowL r):fdAt r (i * rowL r + f)=(rowT r)[f]?:=by
 unfold fdAt
 rw [Nat.mul_comm,Nat.mul_add_mod,Nat.mod_eq_of_lt h]
noncomputable def kt:Key→Option Nat
 | []=>none
 | [a]=>if a=0 then some 0 else none
 | o :: k :: t=>(kt (k :: t)).bind fun r=>match fdAt r o with | some (.l r')=>some r' | _=>none
theorem X2z {k:Key} {r o r':Nat} (h:kt k=some r) (hf:fdAt r o=some (.l r')):kt (o :: k)=some r':=by
 cases k with
 | nil=>cases h
 | cons a t =>
  show (kt (a :: t)).bind _=_
  rw [h]
  show (match fdAt r o with | some (.l r')=>some r' | _=>none)=_
  rw [hf]
abbrev SB:Nat:=1048576
noncomputable def okc:Option Fd→Cl→Prop
 | some (.i k),.v x=>∃ n,x=.int k n
 | some .s,.v x=>∃ t:Str,x=sv t∧t.length ≤ SB
 | some .b,.v x=>∃ b,x=.bool b
 | some (.l r),.s _ sz=>sz=rowL r
 | some .f,.v _=>True
 | _,_=>False
structure WT (X:NX):Prop where
 root:∃ l,X [0]=some (.c l)∧l.length=18
 set:∃ w,X [2]=some (setO w)
 no1:X [1]=none
 ty:∀ k l,X k=some (.c l)→∃ r,kt k=some r∧∀ o c,l[o]?=some c→okc (fdAt r o) c
noncomputable def cl (X:NX) (k:Key) (o:Nat):Cl:=match X k with | some (.c l)=>(l[o]?).getD (.v .nilFunc) | _=>.v .nilFunc
noncomputable def nOf (X:NX) (k:Key) (o:Nat):Nat:=match cl X k o with | .s n _=>n | _=>0
noncomputable def vOf (X:NX) (k:Key) (o:Nat):Value:=match cl X k o with | .v x=>x | _=>.nilFunc
noncomputable def sOf (X:NX) (k:Key) (o:Nat):Str:=match vOf X k o with | .string b=>b.data.toList | _=>[]
noncomputable def iOf (X:NX) (k:Key) (o:Nat):Int:=match vOf X k o with | .int _ n=>n | _=>0
noncomputable def stF (X:NX) (k:Key) (o:Nat) (xs:List Value):NX:=match X k with | some (.c l)=>X.set k (some (.c (l.take o ++ xs.map .v ++ l.drop (o + xs.length)))) | _=>X
noncomputable def apF (X:NX) (k:Key) (o:Nat) (cs:List Cl):NX:=match X k with | some (.c l)=>(X.set (o :: k) (some (.c (X23 X (o :: k) ++ cs)))).set k (some (.c (l.set o (.s (nOf X k o + 1) cs.length)))) | _=>X
theorem get_put {l z:List Cl} {o:Nat} (ho:o + z.length ≤ l.length) (i:Nat):(l.take o ++ z ++ l.drop (o + z.length))[i]?=if o ≤ i∧i < o + z.length then z[i - o]? else l[i]?:=by
 have e1:(l.take o).length=o:=by simp; omega
 rw [get3,e1]
 by_cases a:i < o
 ·rw [if_pos a,if_neg (by omega),List.getElem?_take,if_pos a]
 ·rw [if_neg a]
  by_cases b:i < o + z.length
  ·rw [if_pos b,if_pos ⟨by omega,b⟩]
  ·rw [if_neg b,if_neg (by omega),List.getElem?_drop,show o + z.length + (i - o - z.length)=i by omega]
theorem Xpb {l z:List Cl} {o:Nat} (ho:o + z.length ≤ l.length):(l.take o ++ z ++ l.drop (o + z.length)).length=l.length:=by simp; omega
theorem Xyi {f:Option Fd} {y:Value} {d:Cl} (h:okc f (.v y)) (h2:okc f d):∃ z,d=.v z:=by
 cases d with
 | v z=>exact ⟨z,rfl⟩
 | s n sz =>
  cases f with
  | none=>exact False.elim h
  | some g=>cases g <;> first | exact False.elim h2 | exact False.elim h
theorem X1j {k:Key} {r:Nat} (h:kt k=some r):k ≠ [1]∧k ≠ [2]:=⟨fun e=>(by rw [e] at h; cases h),fun e=>(by rw [e] at h; cases h)⟩

theorem X1c {X:NX} {k:Key} {l:List Cl} (h:X k=some (.c l)) (o:Nat) (xs:List Value):stF X k o xs=X.set k (some (.c (l.take o ++ xs.map .v ++ l.drop (o + xs.length)))):=by unfold stF; rw [h]
theorem Xyh {X:NX} {k:Key} {l:List Cl} (h:X k=some (.c l)) {o:Nat} {c:Cl} (ho:l[o]?=some c):cl X k o=c:=by unfold cl; rw [h]; show (l[o]?).getD _=c; rw [ho]; rfl
theorem Xc8 {X:NX} {k:Key} {l:List Cl} (h:X k=some (.c l)) {o n sz:Nat} (ho:l[o]?=some (.s n sz)) (cs:List Cl) (hs:cs.length=sz) :
  apF X k o cs=(X.set (o :: k) (some (.c (X23 X (o :: k) ++ cs)))).set k (some (.c (l.set o (.s (n + 1) sz)))):=by
 unfold apF nOf
 rw [Xyh h ho,h,hs]
theorem X32 {k:Key} {r:Nat} (h:kt k=some r):k ≠ []:=fun e=>by rw [e] at h; cases h
theorem WT.get {X:NX} (w:WT X) {k:Key} {l:List Cl} {r o:Nat} (hk:X k=some (.c l)) (hr:kt k=some r) (ho:o < l.length):∃ c,l[o]?=some c∧okc (fdAt r o) c:=by
 obtain ⟨r',h1,h2⟩:=w.ty k l hk
 rw [hr] at h1
 cases h1
 exact ⟨l[o],List.getElem?_eq_getElem ho,h2 o _ (List.getElem?_eq_getElem ho)⟩
theorem WT.st {X:NX} (w:WT X) {k:Key} {l:List Cl} {r o:Nat} {xs:List Value} (hk:X k=some (.c l)) (hr:kt k=some r) (ho:o + xs.length ≤ l.length) (hx:∀ i x,xs[i]?=some x→okc (fdAt r (o + i)) (.v x)):WT (stF X k o xs):=by
 obtain ⟨n1,n2⟩:=X1j hr
 rw [X1c hk]
 exact {
  root:=by
   by_cases e:[0]=k
   ·obtain ⟨l0,a,b⟩:=w.root
    rw [e,hk] at a
    cases a
    exact ⟨_,by rw [e]; exact NX.set_eq _ _ _,by simp; omega⟩
   ·rw [NX.set_ne _ _ e]; exact w.root
  set:=by rw [NX.set_ne _ _ (Ne.symm n2)]; exact w.set
  no1:=by rw [NX.set_ne _ _ (Ne.symm n1)]; exact w.no1
  ty:=fun k' l' h'=>by
   by_cases e:k'=k
   ·subst e
    rw [NX.set_eq] at h'
    cases h'
    refine ⟨r,hr,fun j c hj=>?_⟩
    obtain ⟨r',h1,h2⟩:=w.ty _ _ hk
    rw [hr] at h1
    cases h1
    have e1:(l.take o).length=o:=by simp; omega
    rw [get3,e1,List.length_map] at hj
    by_cases a:j < o
    ·rw [if_pos a,List.getElem?_take,if_pos a] at hj
     exact h2 _ _ hj
    ·rw [if_neg a] at hj
     by_cases b:j < o + xs.length
     ·rw [if_pos b,List.getElem?_map] at hj
      cases hq:xs[j - o]? with
      | none=>rw [hq] at hj; cases hj
      | some y =>
       rw [hq] at hj
       cases hj
       have:=hx _ _ hq
       rwa [show o + (j - o)=j by omega] at this
     ·rw [if_neg b,List.getElem?_drop,show o + xs.length + (j - o - xs.length)=j by omega] at hj
      exact h2 _ _ hj
   ·rw [NX.set_ne _ _ e] at h'
    exact w.ty _ _ h' }
theorem WT.ap {X:NX} (w:WT X) {k:Key} {l:List Cl} {r r' o n:Nat} {cs:List Cl} (hk:X k=some (.c l)) (hr:kt k=some r) (hf:fdAt r o=some (.l r')) (ho:l[o]?=some (.s n (rowL r'))) (hl:(X23 X (o :: k)).length=n * rowL r') (hc:cs.length=rowL r')
  (hcs:∀ (i:Nat) (c:Cl),cs[i]?=some c→okc ((rowT r')[i]?) c):WT (apF X k o cs):=by
 obtain ⟨n1,n2⟩:=X1j hr
 have hr2:=X2z hr hf
 obtain ⟨m1,m2⟩:=X1j hr2
 rw [Xc8 hk ho cs hc]
 have hol:o < l.length:=(List.getElem?_eq_some_iff.mp ho).1
 exact {
  root:=by
   obtain ⟨l0,a,b⟩:=w.root
   by_cases e:[0]=k
   ·rw [e,hk] at a
    cases a
    exact ⟨_,by rw [e]; exact NX.set_eq _ _ _,by simp; omega⟩
   ·have e2:[0] ≠ o :: k:=fun e=>by
     injection e with e3 e4
     exact X32 hr e4.symm
    rw [NX.set_ne _ _ e,NX.set_ne _ _ e2]; exact ⟨l0,a,b⟩
  set:=by rw [NX.set_ne _ _ (Ne.symm n2),NX.set_ne _ _ (Ne.symm m2)]; exact w.set
  no1:=by rw [NX.set_ne _ _ (Ne.symm n1),NX.set_ne _ _ (Ne.symm m1)]; exact w.no1
  ty:=fun k' l' h'=>by
   by_cases e:k'=k
   ·subst e
    rw [NX.set_eq] at h'
    cases h'
    refine ⟨r,hr,fun j c hj=>?_⟩
    obtain ⟨r1,h1,h2⟩:=w.ty _ _ hk
    rw [hr] at h1
    cases h1
    rw [List.getElem?_set] at hj
    by_cases a:o=j
    ·subst a
     rw [if_pos rfl,if_pos hol] at hj
     cases hj
     rw [hf]
     rfl
    ·rw [if_neg a] at hj
     exact h2 _ _ hj
   ·rw [NX.set_ne _ _ e] at h'
    by_cases e2:k'=o :: k
    ·subst e2
     rw [NX.set_eq] at h'
     cases h'
     refine ⟨r',hr2,fun j c hj=>?_⟩
     by_cases a:j < n * rowL r'
     ·rw [List.getElem?_append_left (by omega)] at hj
      have:X (o :: k)=some (.c (X23 X (o :: k))):=by
       unfold X23 at hj ⊢
       split at hj
       ·rename_i hx; rw [hx]
       ·cases hj
      obtain ⟨r1,h1,h2⟩:=w.ty _ _ this
      rw [hr2] at h1
      cases h1
      exact h2 _ _ hj
     ·rw [List.getElem?_append_right (by omega),hl] at hj
      have hb:j - n * rowL r' < rowL r':=Nat.lt_of_lt_of_eq (List.getElem?_eq_some_iff.mp hj).1 hc
      have:=hcs _ _ hj
      have e3:fdAt r' j=(rowT r')[j - n * rowL r']?:=by
       rw [show j=n * rowL r' + (j - n * rowL r') by omega,fdAt_row _ _ _ (by omega)]
       congr 1
       omega
      rw [e3]
      exact this
    ·rw [NX.set_ne _ _ e2] at h'
     exact w.ty _ _ h' }
theorem X88 (X:NX) (k:Key) (l:List Cl) (o:Nat):cl (X.set k (some (.c l))) k o=(l[o]?).getD (.v .nilFunc):=by unfold cl; rw [NX.set_eq]
theorem Xri (X:NX) {k k':Key} (b:Option NO) (o:Nat) (h:k' ≠ k):cl (X.set k b) k' o=cl X k' o:=by unfold cl; rw [NX.set_ne _ _ h]
theorem X8v {X:NX} {k:Key} {l:List Cl} (h:X k=some (.c l)) (o:Nat):cl X k o=(l[o]?).getD (.v .nilFunc):=by unfold cl; rw [h]
theorem Xom {X:NX} (w:WT X) {k:Key} {l:List Cl} {r o:Nat} {xs:List Value} (hk:X k=some (.c l)) (hr:kt k=some r) (ho:o + xs.length ≤ l.length) (hx:∀ i x,xs[i]?=some x→okc (fdAt r (o + i)) (.v x)) (k':Key) (o':Nat):nOf (stF X k o xs) k' o'=nOf X k' o':=by
 rw [X1c hk]
 unfold nOf
 by_cases e:k'=k
 ·subst e
  rw [X88,X8v hk]
  have g:=get_put (l:=l) (z:=xs.map Cl.v) (o:=o) (by rw [List.length_map]; exact ho) o'
  rw [List.length_map] at g
  rw [g]
  by_cases p:o ≤ o'∧o' < o + xs.length
  ·rw [if_pos p,List.getElem?_map]
   obtain ⟨d,d1,d2⟩:=w.get hk hr (o:=o') (by omega)
   obtain ⟨y,hy⟩:∃ y,xs[o' - o]?=some y:=⟨_,List.getElem?_eq_getElem (by omega)⟩
   have:=hx _ _ hy
   rw [show o + (o' - o)=o' by omega] at this
   obtain ⟨z,rfl⟩:=Xyi this d2
   rw [d1,hy]
   rfl
  ·rw [if_neg p]
 ·rw [Xri _ _ _ e]
theorem Xop {X:NX} {k:Key} {l:List Cl} {o n sz:Nat} (hk:X k=some (.c l)) (ho:l[o]?=some (.s n sz)) (cs:List Cl) (hs:cs.length=sz) (k':Key) (o':Nat):nOf X k' o' ≤ nOf (apF X k o cs) k' o':=by
 rw [Xc8 hk ho cs hs]
 have hol:o < l.length:=(List.getElem?_eq_some_iff.mp ho).1
 unfold nOf
 by_cases e:k'=k
 ·subst e
  rw [X88,X8v hk,List.getElem?_set]
  by_cases q:o=o'
  ·subst q
   rw [if_pos rfl,if_pos hol,ho]
   show n ≤ n + 1
   omega
  ·rw [if_neg q]; exact Nat.le_refl _
 ·rw [Xri _ _ _ e]
  by_cases e2:k'=o :: k
  ·subst e2
   rw [X88]
   cases hx:X (o :: k) with
   | none =>
    rw [show cl X (o :: k) o'=.v .nilFunc by unfold cl; rw [hx]]
    exact Nat.zero_le _
   | some ob =>
    cases ob with
    | m es c =>
     rw [show cl X (o :: k) o'=.v .nilFunc by unfold cl; rw [hx]]
     exact Nat.zero_le _
    | c l2 =>
     rw [X8v hx,show X23 X (o :: k)=l2 by unfold X23; rw [hx]]
     by_cases q:o' < l2.length
     ·rw [List.getElem?_append_left q]; exact Nat.le_refl _
     ·rw [List.getElem?_eq_none (l:=l2) (by omega)]; exact Nat.zero_le _
  ·rw [Xri _ _ _ e2]; exact Nat.le_refl _
noncomputable def Ge (X X':NX):Prop:=∀ o,nOf X [0] o ≤ nOf X' [0] o∧nOf X [9,0] o ≤ nOf X' [9,0] o
theorem Ge.refl (X:NX):Ge X X:=fun _=>⟨Nat.le_refl _,Nat.le_refl _⟩
theorem Ge.to {X X' X'':NX} (h:Ge X X') (g:∀ k o,k=[0]∨k=[9,0]→nOf X' k o ≤ nOf X'' k o):Ge X X'':=fun o=>⟨Nat.le_trans (h o).1 (g _ _ (.inl rfl)),Nat.le_trans (h o).2 (g _ _ (.inr rfl))⟩
theorem Xk5 {X:NX} {a k:Key} (b:Option NO) (o:Nat) (h:k ≠ a):nOf (X.set a b) k o=nOf X k o:=by unfold nOf; rw [Xri _ _ _ h]
noncomputable def adF (X:NX) (k:Key) (o:Nat) (vs:List Value):NX:=match X k with | some (.c l)=>(X.set (o :: k) (some (.c (vs.map .v)))).set k (some (.c (l.set o (.s vs.length 1)))) | _=>X
theorem Xi9 {X:NX} {k:Key} {l:List Cl} (h:X k=some (.c l)) (o:Nat) (vs:List Value):adF X k o vs=(X.set (o :: k) (some (.c (vs.map .v)))).set k (some (.c (l.set o (.s vs.length 1)))):=by unfold adF; rw [h]
theorem Xu2 (j:Nat):fdAt 11 j=some (.i .u32):=by
 show (rowT 11)[j % 1]?=_
 rw [Nat.mod_one]; rfl
theorem WT.adp {X:NX} (w:WT X) {k:Key} {l:List Cl} {r o n:Nat} {vs:List Value} (hk:X k=some (.c l)) (hr:kt k=some r) (hf:fdAt r o=some (.l 11)) (ho:l[o]?=some (.s n 1)) (hv:∀ v ∈ vs,∃ z,v=.int .u32 z):WT (adF X k o vs):=by
 obtain ⟨n1,n2⟩:=X1j hr
 have hr2:=X2z hr hf
 obtain ⟨m1,m2⟩:=X1j hr2
 rw [Xi9 hk]
 have hol:o < l.length:=(List.getElem?_eq_some_iff.mp ho).1
 exact {
  root:=by
   obtain ⟨l0,a,b⟩:=w.root
   by_cases e:[0]=k
   ·rw [e,hk] at a
    cases a
    exact ⟨_,by rw [e]; exact NX.set_eq _ _ _,by simp; omega⟩
   ·have e2:[0] ≠ o :: k:=fun e=>by
     injection e with e3 e4
     exact X32 hr e4.symm
    rw [NX.set_ne _ _ e,NX.set_ne _ _ e2]; exact ⟨l0,a,b⟩
  set:=by rw [NX.set_ne _ _ (Ne.symm n2),NX.set_ne _ _ (Ne.symm m2)]; exact w.set
  no1:=by rw [NX.set_ne _ _ (Ne.symm n1),NX.set_ne _ _ (Ne.symm m1)]; exact w.no1
  ty:=fun k' l' h'=>by
   by_cases e:k'=k
   ·subst e
    rw [NX.set_eq] at h'
    cases h'
    refine ⟨r,hr,fun j c hj=>?_⟩
    obtain ⟨r1,h1,h2⟩:=w.ty _ _ hk
    rw [hr] at h1
    cases h1
    rw [List.getElem?_set] at hj
    by_cases a:o=j
    ·subst a
     rw [if_pos rfl,if_pos hol] at hj
     cases hj
     rw [hf]
     rfl
    ·rw [if_neg a] at hj
     exact h2 _ _ hj
   ·rw [NX.set_ne _ _ e] at h'
    by_cases e2:k'=o :: k
    ·subst e2
     rw [NX.set_eq] at h'
     cases h'
     refine ⟨11,hr2,fun j c hj=>?_⟩
     rw [List.getElem?_map] at hj
     cases hq:vs[j]? with
     | none=>rw [hq] at hj; cases hj
     | some y =>
      rw [hq] at hj
      cases hj
      rw [Xu2]
      exact hv y (List.mem_of_getElem? hq)
    ·rw [NX.set_ne _ _ e2] at h'
     exact w.ty _ _ h' }
theorem Xr3 {X:NX} {k:Key} {l:List Cl} (hk:X k=some (.c l)) (o:Nat) (vs:List Value) (k':Key) (o':Nat) (h1:k' ≠ k) (h2:k' ≠ o :: k):nOf (adF X k o vs) k' o'=nOf X k' o':=by
 rw [Xi9 hk,Xk5 _ _ h1,Xk5 _ _ h2]
end Go.Ab.Sh

set_option maxRecDepth 100000
namespace Go.Ab.Sh
open Go Go.Ab Go.Lib
abbrev Wd:=Str × Nat
structure Cu where
 pl:Nat
 er:Option (Nat × Int)
structure Cx where
 C:Nat
 P:Nat
 O:Nat
 wb:Nat
 wv:Value
 ws:List Wd
 ln:Nat
 X0:NX
noncomputable def Cu.line (c:Cx) (cu:Cu):Nat:=match cu.er with | some _=>c.ln | none=>0
noncomputable def Cu.col (cu:Cu):Nat:=match cu.er with | some x=>x.1 | none=>0
noncomputable def Cu.e (cu:Cu):Int:=match cu.er with | some x=>x.2 | none=>0
noncomputable def cc (c:Cx) (cu:Cu):List Cl:=[.v c.wv,.v (I cu.pl),.v (I (cu.line c)),.v (I cu.col),.v (I cu.e)]
structure PSt where
 cu:Cu
 X:NX
 blk:Nat
 inn:Str
noncomputable def blkV (c:Cx) (b:Nat):Value:=if b=0 then .nilFunc else .func (.func b) ⟨[pt c.P 0 0]⟩ ⟨[]⟩
noncomputable def midV (c:Cx) (s:PSt):List Value:=[blkV c s.blk,sv s.inn,mapV c.O]
noncomputable def toX (c:Cx) (s:PSt):NX:=(stF s.X [0] 12 (midV c s)).set [1] (some (.c (cc c s.cu)))
theorem Xu1 (c:Cx) (s:PSt) (cu:Cu):(toX c s).set [1] (some (.c (cc c cu)))=toX c { s with cu:=cu }:=by
 funext k
 unfold toX NX.set
 by_cases h:k=[1]
 ·simp [h]
 ·rw [if_neg h,if_neg h,if_neg h]; rfl
theorem Xko (c:Cx) (s:PSt):toX c s [1]=some (.c (cc c s.cu)):=NX.set_eq _ _ _
structure WL (c:Cx) (m:Mem):Prop where
 ne:c.ws ≠ []
 lt:c.wb < m.next
 at':∃ o r cs fro ro ty,c.wv=.slice (some ⟨c.wb,o,some 3⟩) c.ws.length r∧m.get c.wb=some (.cells cs (r / 2) fro ro ty)∧o + 3 * c.ws.length ≤ cs.length ∧
  ∀ i w,c.ws[i]?=some w→cs[o + i * 3]?=some (sv w.1)∧cs[o + i * 3 + 1]?=some (I c.ln)∧cs[o + i * 3 + 2]?=some (I w.2)
 len:c.ws.length ≤ 65536
 txt:∀ w ∈ c.ws,w.1.length ≤ 65536∧w.2 ≤ 65536
structure SOk (c:Cx) (s:PSt):Prop where
 le:s.cu.pl ≤ c.ws.length
 ee:∀ x,s.cu.er=some x→x.2 ≠ 0∧x.2 ≠ 5
 wt:WT s.X
 il:s.inn.length ≤ SB
 ge:Ge c.X0 s.X
structure PS (c:Cx) (cap:Nat) (m:Mem) (φ:Phi) (s:PSt):Prop where
 nr:NR cap m φ (toX c s)
 wl:WL c m
 nb:∀ k,toX c s k ≠ none→(φ k).b ≠ c.wb
 pC:φ [1]=⟨c.C,0,0⟩
 pP:φ [0]=⟨c.P,0,0⟩
 pO:φ [2]=⟨c.O,0,0⟩
 ok:SOk c s
theorem PS.le {c:Cx} {cap:Nat} {m:Mem} {φ:Phi} {s:PSt} (h:PS c cap m φ s):s.cu.pl ≤ c.ws.length:=h.ok.le
theorem PS.ee {c:Cx} {cap:Nat} {m:Mem} {φ:Phi} {s:PSt} (h:PS c cap m φ s):∀ x,s.cu.er=some x→x.2 ≠ 0:=fun x hx=>(h.ok.ee x hx).1
theorem PS.e5 {c:Cx} {cap:Nat} {m:Mem} {φ:Phi} {s:PSt} (h:PS c cap m φ s):∀ x,s.cu.er=some x→x.2 ≠ 5:=fun x hx=>(h.ok.ee x hx).2
theorem PS.wt {c:Cx} {cap:Nat} {m:Mem} {φ:Phi} {s:PSt} (h:PS c cap m φ s):WT s.X:=h.ok.wt
theorem WL.wk {c:Cx} {m m':Mem} {φ φ':Phi} {X X':NX} (h:WL c m) (hb:∀ k,X k ≠ none→(φ k).b ≠ c.wb) (w:Wk m φ X m' φ' X'):WL c m':=by
 obtain ⟨o,r,cs,fro,ro,ty,h1,h2,h3⟩:=h.at'
 exact { h with
  lt:=Nat.lt_of_lt_of_le h.lt w.next
  at':=⟨o,r,cs,fro,ro,ty,h1,by rw [w.get _ h.lt hb]; exact h2,h3⟩ }
theorem PS.step {c:Cx} {cap cap':Nat} {m m':Mem} {φ φ':Phi} {s s':PSt} (h:PS c cap m φ s) (n:NR cap' m' φ' (toX c s')) (w:Wk m φ (toX c s) m' φ' (toX c s')) (hC:φ' [0]=φ [0]∧φ' [1]=φ [1]∧φ' [2]=φ [2]) (ok:SOk c s'):PS c cap' m' φ' s' where
 nr:=n
 wl:=h.wl.wk h.nb w
 nb:=fun k hk=>by
  rcases w.nw k hk with q | ⟨k0,q1,q2⟩
  ·have:=h.wl.lt; omega
  ·rw [← q2]; exact h.nb k0 q1
 pC:=by rw [hC.2.1]; exact h.pC
 pP:=by rw [hC.1]; exact h.pP
 pO:=by rw [hC.2.2]; exact h.pO
 ok:=ok
theorem PS.wl' {c:Cx} {cap:Nat} {m:Mem} {φ:Phi} {s:PSt} (h:PS c cap m φ s) (l:Nat):PS c cap (withLow m l) φ s:=
 { h with nr:=h.nr.withLow l,wl:={ h.wl with at':=h.wl.at' } }
theorem PS.call {c:Cx} {cap:Nat} {m:Mem} {φ:Phi} {s:PSt} (h:PS c cap m φ s) {b:Mem→Option Rs} (Q:Value→Nat→Phi→PSt→Prop)
  (go:∀ m0,PS c cap m0 φ s→∃ v m1 cap1 φ1 s1,b m0=some (v,m1)∧PS c cap1 m1 φ1 s1∧Wk m0 φ (toX c s) m1 φ1 (toX c s1)∧Q v cap1 φ1 s1) :
  ∃ v m2 cap1 φ1 s1,outOf m (b (withLow m m.next))=some (v,m2)∧PS c cap1 m2 φ1 s1∧Wk m φ (toX c s) m2 φ1 (toX c s1)∧Q v cap1 φ1 s1:=by
 obtain ⟨v,m1,cap1,φ1,s1,k1,k2,k3,k4⟩:=go _ (h.wl' m.next)
 obtain ⟨m2,q1,q2,q3⟩:=h.nr.call k1 k2.nr k3
 exact ⟨v,m2,cap1,φ1,s1,q1,h.step q2 q3 ⟨by rw [h.pP,k2.pP],by rw [h.pC,k2.pC],by rw [h.pO,k2.pO]⟩ k2.ok,q3,k4⟩
noncomputable def X2w (c:Cx) (cu:Cu):Bool:=cu.er.isNone && decide (cu.pl < c.ws.length)
noncomputable def wdC (c:Cx) (i:Nat):Wd:=c.ws[i]?.getD ([],0)
noncomputable def Xo6 (c:Cx) (cu:Cu):Nat:=(wdC c (max cu.pl 1 - 1)).2
noncomputable def X60 (cu:Cu) (col:Nat) (e:Int):Cu:=if cu.er.isNone=true then { cu with er:=some (col,e) } else cu
noncomputable def badC (c:Cx) (cu:Cu) (e:Int):Cu:=X60 cu (Xo6 c cu) e
noncomputable def endC (c:Cx):Nat:=(wdC c (c.ws.length - 1)).2 + (wdC c (c.ws.length - 1)).1.length
noncomputable def Xk (c:Cx) (cu:Cu):Str × Cu:=if X2w c cu=true then ((wdC c cu.pl).1,{ cu with pl:=cu.pl + 1 }) else ([],X60 cu (endC c) 130)
variable {c:Cx} {cap:Nat} {m:Mem} {φ:Phi} {s:PSt}
theorem Xx8 {α:Type} (x:Bool) (a b n:Option α):brt (.bool x) a b n=if x=true then a else b:=by cases x <;> rfl
theorem PS.ld (h:PS c cap m φ s) {o:Nat} {x:Value} (hx:(cc c s.cu)[o]?=some (.v x)):X7 false 1 (pt c.C o 0) m=some x:=by
 have:=h.nr.load (k:=[1]) (o:=o) (c:=.v x) (Xko c s) hx
 rw [h.pC] at this
 exact this
theorem PS.ld0 (h:PS c cap m φ s):X7 false 1 (pt c.C (0 + 0) 0) m=some c.wv:=h.ld rfl
theorem PS.ld1 (h:PS c cap m φ s):X7 false 1 (pt c.C (0 + 1) 0) m=some (I s.cu.pl):=h.ld rfl
theorem PS.ld4 (h:PS c cap m φ s):X7 false 1 (pt c.C (0 + 4) 0) m=some (I s.cu.e):=h.ld rfl
theorem PS.e0 (h:PS c cap m φ s):(s.cu.e=0) ↔ s.cu.er.isNone=true:=by
 unfold Cu.e
 cases he:s.cu.er with
 | none=>simp
 | some x=>simp [h.ee x he]
theorem WL.len' {m:Mem} (h:WL c m) (m':Mem):lenK 1 c.wv m'=some (I c.ws.length):=by
 obtain ⟨o,r,cs,fro,ro,ty,h1,h2,h3⟩:=h.at'
 rw [h1]; exact Xb9 _ _ _ _
theorem Xj6 {i:Nat} (h:i < c.ws.length):c.ws[i]?=some (wdC c i):=by
 unfold wdC
 rw [List.getElem?_eq_getElem h]; rfl
theorem WL.ix {m:Mem} (h:WL c m) {i:Nat} (hi:i < c.ws.length):∃ p:Nat→Value,Xb 3 c.wv (I i)=some (p 0)∧(∀ j k,X3 k (p j)=some (p (j + k)))∧X7 false 1 (p 0) m=some (sv (wdC c i).1) ∧
  X7 false 1 (p 1) m=some (I c.ln)∧X7 false 1 (p 2) m=some (I (wdC c i).2)∧X7 true 2 (p 1) m=some (.agg ⟨[I c.ln,I (wdC c i).2]⟩)∧X7 true 3 (p 0) m=some (.agg ⟨[sv (wdC c i).1,I c.ln,I (wdC c i).2]⟩):=by
 obtain ⟨o,r,cs,fro,ro,ty,h1,h2,h3,h4⟩:=h.at'
 obtain ⟨g1,g2,g3⟩:=h4 i _ (Xj6 hi)
 have hb:i * 3 + 3 ≤ 3 * c.ws.length:=by omega
 refine ⟨fun j=>pt c.wb (o + i * 3 + j) (r / 2),?_,fun j k=>?_,X17 h2 g1,X17 h2 g2,X17 h2 g3,Xx h2 (by omega) ?_,Xx h2 (by omega) ?_⟩
 ·rw [h1,X1v]
  show (match Nat.blt i c.ws.length && X1m (some 3) 3 with | true=>_ | false=>_)=_
  rw [Nat.blt_eq.mpr hi,X1h]
  rfl
 ·show X3 k (pt c.wb (o + i * 3 + j) (r / 2))=some (pt c.wb (o + i * 3 + (j + k)) (r / 2))
  rw [Xe,Nat.add_assoc]
 ·rw [List.drop_eq_getElem_cons (by omega),List.drop_eq_getElem_cons (by omega)]
  rw [List.getElem?_eq_getElem (by omega)] at g2 g3
  show List.take 2 (_ :: _ :: _)=_
  rw [Option.some.inj g2]
  have:cs[o + i * 3 + 1 + 1]=I (wdC c i).2:=Option.some.inj g3
  rw [this]; rfl
 ·rw [List.drop_eq_getElem_cons (by omega),List.drop_eq_getElem_cons (by omega),List.drop_eq_getElem_cons (by omega)]
  rw [List.getElem?_eq_getElem (by omega)] at g1 g2 g3
  show List.take 3 (_ :: _ :: _ :: _)=_
  have e1:cs[o + i * 3 + 0]=sv (wdC c i).1:=Option.some.inj g1
  have e2:cs[o + i * 3 + 0 + 1]=I c.ln:=Option.some.inj g2
  have e3:cs[o + i * 3 + 0 + 1 + 1]=I (wdC c i).2:=Option.some.inj g3
  rw [e1,e2,e3]; rfl
theorem wrap64 (n:Nat) (h:n < 9223372036854775808):IntKind.i64.wrap (n:Int)=(n:Int):=IntWalk.i64_in _ ⟨by show (-9223372036854775808:Int) ≤ (n:Int); omega,by show (n:Int) ≤ 9223372036854775807; omega⟩
theorem c_more (h:PS c cap m φ s) (d:Nat):TA (d + 1) Q18 [pt c.C 0 0] m=some (.bool (X2w c s.cu),m):=by
 rw [X8h]
 refine X1l (m1:=withLow m m.next) ?_ (Fr.refl _ _) rfl
 have k:=h.wl' m.next
 generalize withLow m m.next=m0 at k
 unfold Q4d Qax Q7e
 simp only [Xj,Xe,X4,k.ld4,k.ld0,k.ld1,k.wl.len',Q3y,Qw,Xx8]
 unfold X2w
 have:=k.e0
 by_cases he:s.cu.e=0
 ·rw [decide_eq_true he,if_pos rfl,this.mp he]
  simp
 ·rw [decide_eq_false he,if_neg (by decide)]
  have:s.cu.er.isNone=false:=by
   cases hh:s.cu.er.isNone with
   | false=>rfl
   | true=>exact absurd (this.mpr hh) he
  rw [this]; rfl
end Go.Ab.Sh

set_option maxRecDepth 100000
namespace Go.Ab.Sh
open Go Go.Ab Go.Lib
variable {c:Cx} {cap:Nat} {m:Mem} {φ:Phi} {s:PSt}
abbrev posV (l col:Nat):Value:=.agg ⟨[I l,I col]⟩
theorem PS.out (h:PS c cap m φ s) {v:Value} {m1:Mem} {x:Option Rs} (hx:x=some (v,m1)) (hF:Fr [] (withLow m m.next) m1) (hv:refs m.next 8 v=true):outOf m x=some (v,m):=X1l hx hF hv
theorem Xzf (h:PS c cap m φ s):max s.cu.pl 1 - 1 < c.ws.length:=by
 have:=h.le
 have:0 < c.ws.length:=List.length_pos_iff.mpr h.wl.ne
 omega
theorem Xu6 (a b:Nat):aMax (I a) (I b)=some (I (max a b:Nat)):=by
 show some (Value.int .i64 (if (b:Int) > (a:Int) then (b:Int) else (a:Int)))=_
 congr 2
 split <;> omega
theorem c_last (h:PS c cap m φ s) (d:Nat):TA (d + 1) Q8p [pt c.C 0 0] m=some (posV c.ln (Xo6 c s.cu),m):=by
 rw [X8s]
 have k:=h.wl' m.next
 have hl:=h.wl.len
 have hp:=h.le
 obtain ⟨m2,n1,n2,n3,n4⟩:=X2g [] (withLow m m.next) (some (2 * Q5 + 1)) Q2 (v:=posV c.ln (Xo6 c s.cu)) (n:=2) rfl rfl rfl
 refine X1l (m1:=m2) ?_ n2 rfl
 have k2:=(k.nr.push (.cells Q2 0 0 false (some (2 * Q5 + 1)))).1
 have w2:=(k.nr.push (.cells Q2 0 0 false (some (2 * Q5 + 1)))).2
 have P2:=k.step k2 w2 ⟨rfl,rfl,rfl⟩ k.ok
 generalize hm0:(withLow m m.next).push (.cells Q2 0 0 false (some (2 * Q5 + 1)))=m0 at n1 n2 n3 n4 k2 P2
 have hm:Q38 ⟨TA d,18446744073709551616⟩ (pt c.C 0 0) (withLow m m.next)=some (posV c.ln (Xo6 c s.cu),m2):=by
  unfold Q38
  rw [X12,hm0]
  obtain ⟨p,p1,p2,_,_,_,p3,_⟩:=P2.wl.ix (Xzf h)
  have e1:bin .sub true true .int (I (max s.cu.pl 1:Nat)) (.int .i64 1)=some (I (max s.cu.pl 1 - 1:Nat)):=by
   rw [Qf0]
   have:((max s.cu.pl 1:Nat):Int) - 1=((max s.cu.pl 1 - 1:Nat):Int):=by omega
   rw [this,wrap64 _ (by omega)]
  have l2:X7 true 2 (pt (withLow m m.next).next 0 0) m2=some (posV c.ln (Xo6 c s.cu)):=Xx n4 (by show 2 ≤ 2; omega) rfl
  simp only [Xj,Xe,X4,P2.ld0,P2.ld1]
  rw [show aMax (I s.cu.pl) (.int .i64 1)=_ from Xu6 s.cu.pl 1]
  simp only [X4,e1,p1,p2,Nat.zero_add,p3]
  have n1:X8 2 (pt (withLow m m.next).next 0 0) (posV c.ln (wdC c (max s.cu.pl 1 - 1)).2) m0=some m2:=n1
  rw [n1,Xp,l2]
  rfl
 exact hm
theorem c_fail (h:PS c cap m φ s) (col:Nat) (e:Int) (he:e ≠ 0∧e ≠ 5) (d:Nat):∃ m',TA (d + 1) Qs [pt c.C 0 0,posV c.ln col,.int .i64 e] m=some (.tuple ⟨[]⟩,m')∧PS c cap m' φ { s with cu:=X60 s.cu col e }∧Wk m φ (toX c s) m' φ (toX c { s with cu:=X60 s.cu col e }):=by
 rw [X8c]
 obtain ⟨v,m2,cap1,φ1,s1,q1,q2,q3,rfl,rfl,rfl,rfl⟩:=h.call (b:=Q39 ⟨TA d,18446744073709551616⟩ (posV c.ln col) (pt c.C 0 0) (.int .i64 e)) (fun v cap1 φ1 s1=>v=.tuple ⟨[]⟩∧cap1=cap∧φ1=φ∧s1={ s with cu:=X60 s.cu col e }) (fun m0 k=>by
  unfold Q39
  have hn:aNew Q5 (Value.cells (posV c.ln col)).toList m0=(pt m0.next 0 0,m0.push (.cells [I c.ln,I col] 0 0 false (some (2 * Q5 + 1)))):=rfl
  obtain ⟨k2,w2⟩:=k.nr.push (.cells [I c.ln,I col] 0 0 false (some (2 * Q5 + 1)))
  have P2:=k.step k2 w2 ⟨rfl,rfl,rfl⟩ k.ok
  have l2:X7 true 2 (pt m0.next 0 0) (m0.push (.cells [I c.ln,I col] 0 0 false (some (2 * Q5 + 1))))=some (posV c.ln col):=Xx (by rw [Mem.get_push,if_pos rfl]) (by show 2 ≤ 2; omega) rfl
  rw [hn,X6]
  generalize m0.push (.cells [I c.ln,I col] 0 0 false (some (2 * Q5 + 1)))=m1 at k2 w2 P2 l2
  simp only [Xj,Xe,X4,P2.ld4,Q3y,Xt]
  have e0:=h.e0
  by_cases hz:s.cu.e=0
  ·rw [if_pos hz]
   have hf:X60 s.cu col e={ s.cu with er:=some (col,e) }:=by unfold X60; rw [if_pos (e0.mp hz)]
   obtain ⟨m3,a1,a2,a3⟩:=P2.nr.put' (k:=[1]) 2 2 (posV c.ln col) [.v c.wv,.v (I s.cu.pl),.v (I c.ln),.v (I col),.v (I s.cu.e)] (Xko c s) rfl rfl (by show 2 + 2 ≤ 5; omega) (fun i hi=>by
    have:i=0∨i=1:=by omega
    rcases this with rfl | rfl <;> exact ⟨_,rfl⟩) rfl
   rw [P2.pC] at a1
   have a1:X8 2 (pt c.C (0 + 2) 0) (posV c.ln col) m1=some m3:=a1
   obtain ⟨m4,b1,b2,b3⟩:=a2.put' (k:=[1]) 4 1 (.int .i64 e) (cc c (X60 s.cu col e)) (NX.set_eq _ _ _) rfl rfl (by show 4 + 1 ≤ 5; omega) (fun i hi=>by
    have:i=0:=by omega
    subst this; exact ⟨_,rfl⟩) (by rw [hf]; rfl)
   rw [P2.pC] at b1
   have b1:X8 1 (pt c.C (0 + 4) 0) (.int .i64 e) m3=some m4:=b1
   rw [NX.set_set,Xu1] at b2 b3
   have W:=(w2.trans a3).trans b3
   refine ⟨_,m4,cap,φ,_,?_,k.step b2 W ⟨rfl,rfl,rfl⟩ ⟨by rw [hf]; exact k.le,by rw [hf]; intro x hx; cases hx; exact he,k.ok.wt,k.ok.il,k.ok.ge⟩,W,rfl,rfl,rfl,rfl⟩
   rw [l2,X4,a1,Xp,b1,Xp]
  ·rw [if_neg hz]
   have hf:X60 s.cu col e=s.cu:=by unfold X60; rw [if_neg (fun q=>hz (e0.mpr q))]
   exact ⟨_,m1,cap,φ,s,rfl,P2,w2,rfl,rfl,rfl,by rw [hf]⟩)
 exact ⟨m2,q1,q2,q3⟩
theorem c_bad (h:PS c cap m φ s) (e:Int) (he:e ≠ 0∧e ≠ 5) (d:Nat):∃ m',TA (d + 2) Q3 [pt c.C 0 0,.int .i64 e] m=some (.tuple ⟨[]⟩,m')∧PS c cap m' φ { s with cu:=badC c s.cu e }∧Wk m φ (toX c s) m' φ (toX c { s with cu:=badC c s.cu e }):=by
 rw [X9p]
 obtain ⟨v,m2,cap1,φ1,s1,q1,q2,q3,rfl,rfl,rfl,rfl⟩:=h.call (b:=Q3s ⟨TA (d + 1),18446744073709551616⟩ (pt c.C 0 0) (.int .i64 e)) (fun v cap1 φ1 s1=>v=.tuple ⟨[]⟩∧cap1=cap∧φ1=φ∧s1={ s with cu:=badC c s.cu e }) (fun m0 k=>by
  unfold Q3s
  obtain ⟨m1,a1,a2,a3⟩:=c_fail k (Xo6 c s.cu) e he d
  refine ⟨_,m1,cap,φ,_,?_,a2,a3,rfl,rfl,rfl,rfl⟩
  simp only [c_last k d,X6,a1])
 exact ⟨m2,q1,q2,q3⟩
noncomputable def CuC (c:Cx) (cap:Nat) (m:Mem) (φ:Phi) (s:PSt) (x:Option Rs) (v:Value) (cu:Cu):Prop:=
 ∃ m',x=some (v,m')∧PS c cap m' φ { s with cu:=cu }∧Wk m φ (toX c s) m' φ (toX c { s with cu:=cu })
variable {x:Option Rs} {k:Value→Mem→Option Rs} {v w:Value} {cu cu1:Cu}
theorem CuC.bind (h:CuC c cap m φ s x w cu1) (g:∀ m1,PS c cap m1 φ { s with cu:=cu1 }→CuC c cap m1 φ { s with cu:=cu1 } (k w m1) v cu):CuC c cap m φ s (bp x k) v cu:=by
 obtain ⟨m1,a1,a2,a3⟩:=h
 obtain ⟨m2,b1,b2,b3⟩:=g m1 a2
 exact ⟨m2,by rw [a1,X6]; exact b1,b2,a3.trans b3⟩
theorem CuC.ret (h:PS c cap m φ s) (v:Value):CuC c cap m φ s (some (v,m)) v s.cu:=⟨m,rfl,h,Wk.refl _ _ _⟩
theorem CuC.of (h:PS c cap m φ s) (hx:x=some (v,m)) (hc:cu=s.cu):CuC c cap m φ s x v cu:=by subst hx; subst hc; exact .ret h v
theorem CuC.pur (hx:x=some (w,m)) (g:CuC c cap m φ s (k w m) v cu):CuC c cap m φ s (bp x k) v cu:=by subst hx; exact g
theorem PS.cu' (h:PS c cap m φ s) {b:Mem→Option Rs} (ht:x=outOf m (b (withLow m m.next))) (go:∀ m0,PS c cap m0 φ s→CuC c cap m0 φ s (b m0) v cu):CuC c cap m φ s x v cu:=by
 subst ht
 obtain ⟨v',m2,cap1,φ1,s1,q1,q2,q3,rfl,rfl,rfl,rfl⟩:=h.call (b:=b) (fun v' cap1 φ1 s1=>v'=v∧cap1=cap∧φ1=φ∧s1={ s with cu:=cu }) (fun m0 k=>by
  obtain ⟨m1,a1,a2,a3⟩:=go m0 k
  exact ⟨_,m1,cap,φ,_,a1,a2,a3,rfl,rfl,rfl,rfl⟩)
 exact ⟨m2,q1,q2,q3⟩
theorem Xed (h:PS c cap m φ s) (col:Nat) (e:Int) (he:e ≠ 0∧e ≠ 5) (d:Nat):CuC c cap m φ s (TA (d + 1) Qs [pt c.C 0 0,posV c.ln col,.int .i64 e] m) (.tuple ⟨[]⟩) (X60 s.cu col e):=c_fail h col e he d
theorem X3n (h:PS c cap m φ s) (e:Int) (he:e ≠ 0∧e ≠ 5) (d:Nat):CuC c cap m φ s (TA (d + 2) Q3 [pt c.C 0 0,.int .i64 e] m) (.tuple ⟨[]⟩) (badC c s.cu e):=c_bad h e he d
theorem Xof (h:PS c cap m φ s) (hlt:s.cu.pl < c.ws.length) {g:Mem→Option Rs} (hg:∀ m',PS c cap m' φ { s with cu:={ s.cu with pl:=s.cu.pl + 1 } }→CuC c cap m' φ { s with cu:={ s.cu with pl:=s.cu.pl + 1 } } (g m') v cu) :
  CuC c cap m φ s (bp (unt (X8 1 (pt c.C (0 + 1) 0) (I (s.cu.pl + 1:Nat)) m)) fun _ m=>g m) v cu:=by
 obtain ⟨m3,a1,a2,a3⟩:=h.nr.put' (k:=[1]) 1 1 (I (s.cu.pl + 1:Nat)) (cc c { s.cu with pl:=s.cu.pl + 1 }) (Xko c s) rfl rfl (by show 1 + 1 ≤ 5; omega) (fun i hi=>by
  have:i=0:=by omega
  subst this; exact ⟨_,rfl⟩) rfl
 rw [h.pC] at a1
 have a1:X8 1 (pt c.C (0 + 1) 0) (I (s.cu.pl + 1:Nat)) m=some m3:=a1
 rw [Xu1] at a2 a3
 have P:=h.step (s':={ s with cu:={ s.cu with pl:=s.cu.pl + 1 } }) a2 a3 ⟨rfl,rfl,rfl⟩ ⟨by show s.cu.pl + 1 ≤ _; omega,h.ok.ee,h.ok.wt,h.ok.il,h.ok.ge⟩
 obtain ⟨m4,b1,b2,b3⟩:=hg m3 P
 exact ⟨m4,by rw [a1,Xp]; exact b1,b2,a3.trans b3⟩
theorem add1 (h:PS c cap m φ s):bin .add true true .int (I s.cu.pl) (.int .i64 1)=some (I (s.cu.pl + 1:Nat)):=by
 have:=h.le
 have:=h.wl.len
 rw [Q3p]
 have e:((s.cu.pl:Nat):Int) + 1=((s.cu.pl + 1:Nat):Int):=by omega
 rw [e,wrap64 _ (by omega)]
theorem X8p (h:X2w c s.cu=true):s.cu.pl < c.ws.length:=by
 unfold X2w at h
 simp only [Bool.and_eq_true,decide_eq_true_eq] at h
 exact h.2
theorem Xub (h:PS c cap m φ s):0 < c.ws.length:=List.length_pos_iff.mpr h.wl.ne
theorem X5m (b:Bool):un .not (.bool b)=some (.bool !b):=by cases b <;> exact Eq.trans rfl rfl
theorem X2p (h:PS c cap m φ s) (d:Nat):CuC c cap m φ s (TA (d + 2) Qd [pt c.C 0 0] m) (sv (Xk c s.cu).1) (Xk c s.cu).2:=by
 refine h.cu' (X96 _ _ _) fun m0 k=>?_
 unfold Q4e
 refine .pur (c_more k d) ?_
 unfold Xk
 have hlen:=h.wl.len
 cases hm:X2w c s.cu with
 | false =>
  simp only [X5m,Bool.not_false,X4,Xc,Bool.false_eq_true,if_false]
  have hp:=Xub h
  obtain ⟨p,p1,p2,_,_,_,_,p3⟩:=k.wl.ix (i:=c.ws.length - 1) (by omega)
  have e1:bin .sub true true .int (I c.ws.length) (.int .i64 1)=some (I (c.ws.length - 1:Nat)):=by
   rw [Qf0]
   have:((c.ws.length:Nat):Int) - 1=((c.ws.length - 1:Nat):Int):=by omega
   rw [this,wrap64 _ (by omega)]
  simp only [Xj,Xe,X4,k.ld0,k.wl.len',e1,p1,p3,X12]
  obtain ⟨m2,n1,n2,n3,n4⟩:=X2g [] m0 (some (2 * Q6y + 1)) Qc1 (v:=.agg ⟨[sv (wdC c (c.ws.length - 1)).1,I c.ln,I (wdC c (c.ws.length - 1)).2]⟩) (n:=3) rfl rfl rfl
  have n1:X8 3 (pt m0.next 0 0) (.agg ⟨[sv (wdC c (c.ws.length - 1)).1,I c.ln,I (wdC c (c.ws.length - 1)).2]⟩) (m0.push (.cells Qc1 0 0 false (some (2 * Q6y + 1))))=some m2:=n1
  have W:Wk m0 φ (toX c s) m2 φ (toX c s):=⟨n2.next,n2.low,fun x a b e=>n2.low2 x a b (by simp),fun b hb hk=>n2.get b hb (by simp),n2.lo,fun k hk=>.inr ⟨k,hk,rfl⟩,.inr ⟨fun _ _=>rfl,fun _ h=>h⟩⟩
  have P2:PS c cap m2 φ s:=k.step (k.nr.same n2.next fun q hq=>n2.get _ (k.nr.hi q hq) (by simp)) W ⟨rfl,rfl,rfl⟩ k.ok
  have l1:X7 false 1 (pt m0.next (0 + 1 + 0) 0) m2=some (I c.ln):=X17 n4 rfl
  have l2:X7 false 1 (pt m0.next (0 + 1 + 1) 0) m2=some (I (wdC c (c.ws.length - 1)).2):=X17 n4 rfl
  have l0:X7 false 1 (pt m0.next (0 + 0) 0) m2=some (sv (wdC c (c.ws.length - 1)).1):=X17 n4 rfl
  have ht:=h.wl.txt _ (List.mem_of_getElem? (Xj6 (c:=c) (i:=c.ws.length - 1) (by omega)))
  have e2:bin .add false true .int (I (wdC c (c.ws.length - 1)).2) (I (wdC c (c.ws.length - 1)).1.length)=some (I (endC c)):=by
   rw [Q3p]
   unfold endC
   rw [← Int.natCast_add,wrap64 _ (by omega)]
  have e3:Xi Q2 [(0,1),(1,1)] [(0,I c.ln),(1,I (endC c))]=some (posV c.ln (endC c)):=Eq.trans rfl rfl
  simp only [n1,Xp,Xe,X4,l1,l2,l0,X3r,e2,e3]
  obtain ⟨m3,f1,f2,f3⟩:=Xed P2 (endC c) 130 (by decide) d
  exact ⟨m3,by simp only [f1,X6]; rfl,f2,W.trans f3⟩
 | true =>
  have hlt:=X8p hm
  simp only [X5m,Bool.not_true,X4,Xa,if_true,Xj,Xe,k.ld1,add1 k]
  refine Xof k hlt fun m1 P=>?_
  obtain ⟨p,p1,p2,p3,_⟩:=P.wl.ix (i:=s.cu.pl) hlt
  have e1:bin .sub true true .int (I (s.cu.pl + 1:Nat)) (.int .i64 1)=some (I s.cu.pl):=by
   rw [Qf0]
   have:((s.cu.pl + 1:Nat):Int) - 1=((s.cu.pl:Nat):Int):=by omega
   rw [this,wrap64 _ (by omega)]
  have l1:X7 false 1 (pt c.C (0 + 1) 0) m1=some (I (s.cu.pl + 1:Nat)):=P.ld1
  simp only [X4,P.ld0,l1,e1,p1,p2,Nat.zero_add,p3]
  exact .ret P _
end Go.Ab.Sh

set_option maxRecDepth 100000
namespace Go.Ab.Sh
open Go Go.Ab Go.Lib
variable {c:Cx} {cap:Nat} {m:Mem} {φ:Phi} {s:PSt}
noncomputable def isC (c:Cx) (cu:Cu) (w:Str):Bool × Cu:=if X2w c cu=true∧(wdC c cu.pl).1=w then (true,{ cu with pl:=cu.pl + 1 }) else (false,cu)
noncomputable def Xgd (c:Cx) (cu:Cu) (w:Str):Cu:=if (Xk c cu).1=w then (Xk c cu).2 else badC c (Xk c cu).2 130
noncomputable def X1i (c:Cx) (cu:Cu):Str × Cu:=((Xk c cu).1,if Xqk (Xk c cu).1=true then (Xk c cu).2 else badC c (Xk c cu).2 130)
noncomputable def vrfC (c:Cx) (cu:Cu):Str × Cu:=if (isC c cu [118,114,102]).1=true then X1i c (isC c cu [118,114,102]).2 else ([],(isC c cu [118,114,102]).2)
theorem X2m (h:PS c cap m φ s):(Xk c s.cu).1.length ≤ 65536:=by
 unfold Xk
 split
 ·rename_i hm
  exact (h.wl.txt _ (List.mem_of_getElem? (Xj6 (X8p hm)))).1
 ·exact Nat.zero_le _
theorem Xv7 {b:Bool} {k1 k2:Option Rs} {v:Value} {cu:Cu} (h1:b=true→CuC c cap m φ s k1 v cu) (h2:b=false→CuC c cap m φ s k2 v cu):CuC c cap m φ s (brb (.bool b) k1 k2) v cu:=by
 cases b with
 | true=>exact h1 rfl
 | false=>exact h2 rfl
theorem X64 (h:PS c cap m φ s) (w:Str) (d:Nat):CuC c cap m φ s (TA (d + 2) Qe [pt c.C 0 0,sv w] m) (.bool (isC c s.cu w).1) (isC c s.cu w).2:=by
 refine h.cu' (Xav _ _ _ _) fun m0 k=>?_
 unfold Q6f Qdp
 refine .pur (c_more k d) ?_
 rw [Xx8]
 unfold Q8q isC
 cases hm:X2w c s.cu with
 | false =>
  simp only [Bool.false_eq_true,if_false,false_and]
  exact .ret k _
 | true =>
  have hlt:=X8p hm
  obtain ⟨p,p1,p2,p3,_⟩:=k.wl.ix (i:=s.cu.pl) hlt
  simp only [if_true,true_and,Xj,Xe,X4,k.ld0,k.ld1,p1,p2,Nat.zero_add,p3,Qo,add1 k]
  by_cases hw:(wdC c s.cu.pl).1=w
  ·rw [decide_eq_true hw,Xc,if_pos hw]
   exact Xof k hlt fun m1 P=>.ret P _
  ·rw [decide_eq_false hw,Xa,if_neg hw]
   exact .ret k _
theorem Xqw (h:PS c cap m φ s) (w:Str) (d:Nat):CuC c cap m φ s (TA (d + 3) Q6p [pt c.C 0 0,sv w] m) (.tuple ⟨[]⟩) (Xgd c s.cu w):=by
 refine h.cu' (X8a _ _ _ _) fun m0 k=>?_
 unfold Q4f
 refine .bind (X2p k d) fun m1 P=>?_
 simp only [Qkc,X4]
 unfold Xgd
 refine Xv7 (fun hb=>?_) (fun hb=>?_)
 ·have hb:=of_decide_eq_true hb
  rw [if_neg hb]
  exact .bind (X3n P 130 (by decide) d) fun m2 P2=>.ret P2 _
 ·have hb:=Decidable.not_not.mp (of_decide_eq_false hb)
  rw [if_pos hb]
  exact .ret P _
theorem X2y (h:PS c cap m φ s) (d:Nat):CuC c cap m φ s (TA (d + 5) Qb [pt c.C 0 0] m) (sv (X1i c s.cu).1) (X1i c s.cu).2:=by
 have hl:=X2m h
 refine h.cu' (X9g _ _ _) fun m0 k=>?_
 unfold Q4g Qay
 refine .bind (X2p k (d + 2)) fun m1 P=>?_
 unfold Qaz Q7f X1i
 simp only [c_lexName _ (Nat.le_trans hl (by decide)) d,X6,X5m,X4]
 refine Xv7 (fun hb=>?_) (fun hb=>?_)
 ·have:Xqk (Xk c s.cu).1=false:=by simpa using hb
  rw [this]
  exact .bind (X3n P 130 (by decide) (d + 2)) fun m2 P2=>.ret P2 _
 ·have:Xqk (Xk c s.cu).1=true:=by simpa using hb
  rw [this]
  exact .ret P _
theorem Xru (h:PS c cap m φ s) (d:Nat):CuC c cap m φ s (TA (d + 6) Q5f [pt c.C 0 0] m) (sv (vrfC c s.cu).1) (vrfC c s.cu).2:=by
 refine h.cu' (Xah _ _ _) fun m0 k=>?_
 unfold Q5g
 refine .bind (X64 k [118,114,102] (d + 3)) fun m1 P=>?_
 unfold vrfC
 refine Xv7 (fun hb=>?_) (fun hb=>?_)
 ·rw [hb,if_pos rfl]
  exact .bind (X2y P d) fun m2 P2=>.ret P2 _
 ·rw [hb,if_neg (by decide)]
  exact .ret P _
end Go.Ab.Sh

set_option maxRecDepth 100000
namespace Go.Ab.Sh
open Go Go.Ab Go.Lib
abbrev Tmp:=Nat × Nat × List Value
structure W (c:Cx) (m0:Mem) (φ0:Phi) (s0:PSt) (cap:Nat) (m:Mem) (φ:Phi) (s:PSt) (ts:List Tmp):Prop where
 ps:PS c cap m φ s
 wk:Wk m0 φ0 (toX c s0) m φ (toX c s)
 wb:c.wb < m0.next
 lt:∀ t ∈ ts,m0.next ≤ t.1∧t.1 < m.next
 nx:∀ t ∈ ts,∀ k,toX c s k ≠ none→(φ k).b ≠ t.1
 at':∀ t ∈ ts,∃ ty,m.get t.1=some (.cells t.2.2 t.2.1 0 false ty)
 nd:(ts.map (·.1)).Nodup
noncomputable def Res (c:Cx) (m0:Mem) (φ0:Phi) (s0:PSt) (x:Option Rs) (Q:Value→Nat→Phi→PSt→Prop):Prop:=
 ∃ v m1 cap1 φ1 s1,x=some (v,m1)∧PS c cap1 m1 φ1 s1∧Wk m0 φ0 (toX c s0) m1 φ1 (toX c s1)∧Q v cap1 φ1 s1
abbrev Q_c (cap:Nat) (φ:Phi) (s:PSt) (v:Value) (cu:Cu):Value→Nat→Phi→PSt→Prop:=fun v' cap1 φ1 s1=>v'=v∧cap1=cap∧φ1=φ∧s1={ s with cu:=cu }
variable {c:Cx} {m0 m:Mem} {φ0 φ:Phi} {s0 s:PSt} {cap:Nat} {ts:List Tmp} {x:Option Rs} {Q:Value→Nat→Phi→PSt→Prop} {v:Value} {cu:Cu}
theorem W.start (h:PS c cap m φ s):W c m φ s cap m φ s []:=
 ⟨h,Wk.refl _ _ _,h.wl.lt,fun _ h=>(by cases h),fun _ h=>(by cases h),fun _ h=>(by cases h),List.nodup_nil⟩
theorem CuC.ofRes (h:Res c m φ s x (Q_c cap φ s v cu)):CuC c cap m φ s x v cu:=by
 obtain ⟨v',m1,cap1,φ1,s1,a1,a2,a3,rfl,rfl,rfl,rfl⟩:=h
 exact ⟨m1,a1,a2,a3⟩
theorem PS.cuR (h:PS c cap m φ s) {b:Mem→Option Rs} (ht:x=outOf m (b (withLow m m.next))) (go:∀ m0,W c m0 φ s cap m0 φ s []→Res c m0 φ s (b m0) (Q_c cap φ s v cu)):CuC c cap m φ s x v cu:=
 h.cu' ht fun m0 k=>CuC.ofRes (go m0 (W.start k))
theorem W.go (h:W c m0 φ0 s0 cap m φ s ts) {cap1:Nat} {m1:Mem} {φ1:Phi} {s1:PSt} (p:PS c cap1 m1 φ1 s1) (w:Wk m φ (toX c s) m1 φ1 (toX c s1)):W c m0 φ0 s0 cap1 m1 φ1 s1 ts where
 ps:=p
 wk:=h.wk.trans w
 wb:=h.wb
 lt:=fun t ht=>⟨(h.lt t ht).1,Nat.lt_of_lt_of_le (h.lt t ht).2 w.next⟩
 nx:=fun t ht k hk=>by
  rcases w.nw k hk with q | ⟨k0,q1,q2⟩
  ·have:=(h.lt t ht).2; omega
  ·rw [← q2]; exact h.nx t ht k0 q1
 at':=fun t ht=>by
  obtain ⟨ty,q⟩:=h.at' t ht
  exact ⟨ty,by rw [w.get _ (h.lt t ht).2 (h.nx t ht)]; exact q⟩
 nd:=h.nd
theorem W.push (h:W c m0 φ0 s0 cap m φ s ts) (z:List Value) (ty:Option Nat):W c m0 φ0 s0 cap (m.push (.cells z 0 0 false ty)) φ s ((m.next,0,z) :: ts):=by
 obtain ⟨k2,w2⟩:=h.ps.nr.push (.cells z 0 0 false ty)
 have P2:=h.ps.step k2 w2 ⟨rfl,rfl,rfl⟩ h.ps.ok
 have H:=h.go P2 w2
 exact {
  ps:=P2
  wk:=H.wk
  wb:=h.wb
  lt:=fun t ht=>by
   rcases List.mem_cons.mp ht with e | e
   ·subst e; exact ⟨h.wk.next,Nat.lt_succ_self _⟩
   ·exact H.lt t e
  nx:=fun t ht k hk=>by
   rcases List.mem_cons.mp ht with e | e
   ·subst e; exact Nat.ne_of_lt (h.ps.nr.hi k hk)
   ·exact H.nx t e k hk
  at':=fun t ht=>by
   rcases List.mem_cons.mp ht with e | e
   ·subst e; exact ⟨ty,by rw [Mem.get_push,if_pos rfl]⟩
   ·exact H.at' t e
  nd:=by
   show (m.next :: ts.map (·.1)).Nodup
   rw [List.nodup_cons]
   refine ⟨fun hm=>?_,h.nd⟩
   obtain ⟨t,ht,e⟩:=List.mem_map.mp hm
   have:=(h.lt t ht).2
   omega }
theorem W.new (h:W c m0 φ0 s0 cap m φ s ts) {T:Nat} {z:List Value} {k:Value→Mem→Option Rs} (g:∀ b m1,W c m0 φ0 s0 cap m1 φ s ((b,0,z) :: ts)→Res c m0 φ0 s0 (k (pt b 0 0) m1) Q):Res c m0 φ0 s0 (bp (some (aNew T z m)) k) Q:=by
 rw [X12]; exact g _ _ (h.push z _)
theorem W.bsl (h:W c m0 φ0 s0 cap m φ s ts) {T n sz:Nat} {zero cs:List Value} {parts:List (Nat × Value)} (hf:fill (fun i=>some (i * sz,sz)) (rep n zero) parts=some cs) (hs:sz ≠ 0) {k:Value→Mem→Option Rs}
  (g:∀ b m1,W c m0 φ0 s0 cap m1 φ s ((b,0,cs) :: ts)→Res c m0 φ0 s0 (k (.slice (some ⟨b,0,some sz⟩) n 1) m1) Q):Res c m0 φ0 s0 (bp (X9 T zero sz n parts m) k) Q:=by
 have e:X9 T zero sz n parts m=some (.slice (some ⟨m.next,0,some sz⟩) n 1,m.push (.cells cs 0 0 false (some (2 * T)))):=by
  rw [X28]
  unfold X21
  rw [hf]
  exact if_neg hs
 rw [e,X6]
 exact g _ _ (h.push cs _)
theorem W.upd {l1 l2:List Tmp} {b r r':Nat} {cs cs':List Value} (h:W c m0 φ0 s0 cap m φ s (l1 ++ (b,r,cs) :: l2)) {m1:Mem} {ty:Option Nat} (hn:m1.next=m.next) (hl:m1.low=min m.low b) (hg:∀ b',b' < m.next→b' ≠ b→m1.get b'=m.get b') (hb:m1.get b=some (.cells cs' r' 0 false ty)) :
  W c m0 φ0 s0 cap m1 φ s (l1 ++ (b,r',cs') :: l2):=by
 have hm:(b,r,cs) ∈ l1 ++ (b,r,cs) :: l2:=by simp
 have hlt:m0.next ≤ b∧b < m.next:=h.lt _ hm
 have hnx:∀ k,toX c s k ≠ none→(φ k).b ≠ b:=h.nx _ hm
 have hwb:c.wb ≠ b:=by have:=h.wb; omega
 have hnd:=h.nd
 rw [List.map_append,List.map_cons,List.nodup_append,List.nodup_cons] at hnd
 have mem':∀ t ∈ l1 ++ (b,r',cs') :: l2,t=(b,r',cs')∨(t ∈ l1 ++ (b,r,cs) :: l2∧t.1 ≠ b):=by
  intro t ht
  rcases List.mem_append.mp ht with e | e
  ·exact .inr ⟨List.mem_append_left _ e,fun e2=>hnd.2.2 t.1 (List.mem_map_of_mem e) b (List.mem_cons_self ..) e2⟩
  ·rcases List.mem_cons.mp e with e | e
   ·exact .inl e
   ·refine .inr ⟨List.mem_append_right _ (List.mem_cons_of_mem _ e),fun e2=>hnd.2.1.1 ?_⟩
    show b ∈ _
    rw [← e2]
    exact List.mem_map_of_mem e
 obtain ⟨o,q,ws,fro,ro,ty2,g1,g2,g3⟩:=h.ps.wl.at'
 exact {
  ps:={ h.ps with
   nr:=h.ps.nr.same (by omega) fun k hk=>hg _ (h.ps.nr.hi k hk) (hnx k hk)
   wl:={ h.ps.wl with
    lt:=by rw [hn]; exact h.ps.wl.lt
    at':=⟨o,q,ws,fro,ro,ty2,g1,by rw [hg _ h.ps.wl.lt hwb]; exact g2,g3⟩ } }
  wk:={
   next:=by rw [hn]; exact h.wk.next
   low:=by have:=h.wk.low; omega
   low2:=fun y y1 y2 y3=>by have:=h.wk.low2 y y1 y2 y3; omega
   get:=fun b' y1 y2=>by rw [hg b' (by have:=h.wk.next; omega) (by omega)]; exact h.wk.get b' y1 y2
   lo:=fun b' y1=>by
    rcases h.wk.lo b' y1 with q | q
    ·exact .inl (by omega)
    ·exact .inr (by rw [hg b' (by have:=h.wk.next; omega) (by omega)]; exact q)
   nw:=h.wk.nw
   kp:=by
    rcases h.wk.kp with ⟨k,a,d⟩ | q
    ·exact .inl ⟨k,a,by omega⟩
    ·exact .inr q }
  wb:=h.wb
  lt:=fun t ht=>by
   rcases mem' t ht with e | ⟨e,_⟩
   ·subst e; rw [hn]; exact hlt
   ·rw [hn]; exact h.lt t e
  nx:=fun t ht=>by
   rcases mem' t ht with e | ⟨e,_⟩
   ·subst e; exact hnx
   ·exact h.nx t e
  at':=fun t ht=>by
   rcases mem' t ht with e | ⟨e,e2⟩
   ·subst e; exact ⟨ty,hb⟩
   ·obtain ⟨ty3,q3⟩:=h.at' t e
    exact ⟨ty3,by rw [hg _ (h.lt t e).2 e2]; exact q3⟩
  nd:=by
   have:=h.nd
   rw [List.map_append,List.map_cons] at this ⊢
   exact this }
theorem W.sto {l1 l2:List Tmp} {b r:Nat} {cs:List Value} (h:W c m0 φ0 s0 cap m φ s (l1 ++ (b,r,cs) :: l2)) {o n:Nat} {y:Value} {cs':List Value} (hn:y.cells.size=n) (h1:y.cells.toList.all one=true) (ho:o + n ≤ cs.length) (hc:cs.take o ++ y.cells.toList ++ cs.drop (o + n)=cs') {k:Mem→Option Rs}
  (g:∀ m1,W c m0 φ0 s0 cap m1 φ s (l1 ++ (b,r,cs') :: l2)→Res c m0 φ0 s0 (k m1) Q):Res c m0 φ0 s0 (bp (unt (X8 n (pt b o r) y m)) fun _ m=>k m) Q:=by
 obtain ⟨ty,q⟩:=h.at' (b,r,cs) (by simp)
 obtain ⟨m1,a1,a2⟩:=X1s (o:=o) (n:=n) (v:=y) q hn (Nat.zero_le _) ho h1 hc
 rw [a1,Xp]
 refine g m1 (h.upd (ty:=ty) (by rw [a2.next,Mem.next_put]) (by rw [a2.low,Mem.low_put]) (fun b' _ e=>by rw [a2.get,Mem.get_put,if_neg (Ne.symm e)]) ?_)
 rw [a2.get,Mem.get_put,if_pos rfl]
theorem W.stoE {l1 l2:List Tmp} {b r:Nat} {cs:List Value} (h:W c m0 φ0 s0 cap m φ s (l1 ++ (b,r,cs) :: l2)) {o n:Nat} {y:Value} {cs':List Value} (hn:y.cells.size=n) (h1:y.cells.toList.all one=true) (ho:o + n ≤ cs.length) (hc:cs.take o ++ y.cells.toList ++ cs.drop (o + n)=cs') :
  ∃ m1,X8 n (pt b o r) y m=some m1∧W c m0 φ0 s0 cap m1 φ s (l1 ++ (b,r,cs') :: l2):=by
 obtain ⟨ty,q⟩:=h.at' (b,r,cs) (by simp)
 obtain ⟨m1,a1,a2⟩:=X1s (o:=o) (n:=n) (v:=y) q hn (Nat.zero_le _) ho h1 hc
 refine ⟨m1,a1,h.upd (ty:=ty) (by rw [a2.next,Mem.next_put]) (by rw [a2.low,Mem.low_put]) (fun b' _ e=>by rw [a2.get,Mem.get_put,if_neg (Ne.symm e)]) ?_⟩
 rw [a2.get,Mem.get_put,if_pos rfl]
theorem W.ld (h:W c m0 φ0 s0 cap m φ s ts) {b r o:Nat} {cs:List Value} {y:Value} (hb:(b,r,cs) ∈ ts) (hv:cs[o]?=some y):X7 false 1 (pt b o r) m=some y:=by
 obtain ⟨ty,q⟩:=h.at' _ hb
 exact X17 q hv
theorem W.lds (h:W c m0 φ0 s0 cap m φ s ts) {b r o n:Nat} {cs vs:List Value} (hb:(b,r,cs) ∈ ts) (ho:o + n ≤ cs.length) (hv:(cs.drop o).take n=vs):X7 true n (pt b o r) m=some (.agg ⟨vs⟩):=by
 obtain ⟨ty,q⟩:=h.at' _ hb
 exact Xx q ho hv
theorem W.sub (h:W c m0 φ0 s0 cap m φ s ts) {ts':List Tmp} (hs:List.Sublist ts' ts):W c m0 φ0 s0 cap m φ s ts':=
 { h with
  lt:=fun t ht=>h.lt t (hs.subset ht)
  nx:=fun t ht=>h.nx t (hs.subset ht)
  at':=fun t ht=>h.at' t (hs.subset ht)
  nd:=List.Nodup.sublist (hs.map _) h.nd }
theorem W.tl {t:Tmp} (h:W c m0 φ0 s0 cap m φ s (t :: ts)):W c m0 φ0 s0 cap m φ s ts:=h.sub (List.sublist_cons_self _ _)
theorem W.call {cu1:Cu} (h:W c m0 φ0 s0 cap m φ { s with cu:=cu1 } ts) {y:Option Rs} {w:Value} (law:CuC c cap m φ { s with cu:=cu1 } y w cu) {k:Value→Mem→Option Rs} (g:∀ m1,W c m0 φ0 s0 cap m1 φ { s with cu:=cu } ts→Res c m0 φ0 s0 (k w m1) Q):Res c m0 φ0 s0 (bp y k) Q:=by
 obtain ⟨m1,a1,a2,a3⟩:=law
 rw [a1,X6]
 exact g m1 (h.go a2 a3)
theorem W.ret (h:W c m0 φ0 s0 cap m φ s ts) {w:Value} (q:Q w cap φ s):Res c m0 φ0 s0 (some (w,m)) Q:=⟨w,m,cap,φ,s,rfl,h.ps,h.wk,q⟩
theorem W.retc (h:W c m0 φ s cap m φ { s with cu:=cu } ts):Res c m0 φ s (some (v,m)) (Q_c cap φ s v cu):=h.ret ⟨rfl,rfl,rfl,rfl⟩
theorem Xn {b:Bool} {k1 k2:Option Rs} (h1:b=true→Res c m0 φ0 s0 k1 Q) (h2:b=false→Res c m0 φ0 s0 k2 Q):Res c m0 φ0 s0 (brb (.bool b) k1 k2) Q:=by
 cases b with
 | true=>exact h1 rfl
 | false=>exact h2 rfl
theorem Xj2 (y:Value) (m:Mem):(ob (ob (some y) fun v=>ob (some []) fun l=>some (v :: l)) fun l=>some (X1g l,m))=some (y,m):=Eq.trans rfl rfl
theorem W.sl (h:W c m0 φ0 s0 cap m φ s ts) {b:Nat} {ws:List Str} (hb:(b,0,ws.map sv) ∈ ts):SL m (.slice (some ⟨b,0,some 1⟩) ws.length 1) ws:=by
 obtain ⟨ty,q⟩:=h.at' _ hb
 refine ⟨b,0,1,ws.map sv,0,false,ty,rfl,(h.lt _ hb).2,q,by simp,fun i w hw=>?_⟩
 rw [Nat.zero_add,List.getElem?_map,hw]
 rfl
noncomputable def idxO (w:Str):List Str→Nat→Option Nat
 | [],_=>none
 | x :: l,i=>if w=x then some i else idxO w l (i + 1)
noncomputable def oneC (c:Cx) (cu:Cu) (l:List Str):Nat × Cu:=match idxO (Xk c cu).1 l 0 with | some i=>(i,(Xk c cu).2) | none=>(0,badC c (Xk c cu).2 130)
noncomputable def idxV (o:Option Nat):Value:=match o with | some i=>I i | none=>.int .i64 (-1)
theorem Xeu {v:Value} {ws:List Str} {m:Mem} (h:SL m v ws) (hn:ws.length ≤ 65536) (w:Str) (G:Gt):∀ n i f,i + n=ws.length→n < f→Q17 G f (I i) (I ws.length) (sv w) v m=some (idxV (idxO w (ws.drop i) i),m)
 | 0,i,f + 1,e,hf=>by
  have:i=ws.length:=by omega
  subst this
  unfold Q17
  simp only [Qw,X4,Int.lt_irrefl,decide_false,Xa,List.drop_length]
  unfold Q4r
  rfl
 | n + 1,i,f + 1,e,hf=>by
  have hi:i < ws.length:=by omega
  obtain ⟨p,p1,p2⟩:=h.at (List.getElem?_eq_getElem hi)
  have hd:ws.drop i=ws[i] :: ws.drop (i + 1):=List.drop_eq_getElem_cons hi
  have hlt:decide (((i:Nat):Int) < ((ws.length:Nat):Int))=true:=decide_eq_true (by omega)
  unfold Q17
  simp only [Qw,X4,hlt,Xc,p1,p2,Qo]
  rw [hd]
  unfold idxO
  by_cases hw:w=ws[i]
  ·rw [decide_eq_true hw,Xc,if_pos hw]
   rfl
  ·rw [decide_eq_false hw,Xa,if_neg hw]
   have e1:bin .add true true .int (I i) (.int .i64 1)=some (I (i + 1:Nat)):=by
    rw [Q3p]
    have:((i:Nat):Int) + 1=((i + 1:Nat):Int):=by omega
    rw [this,wrap64 _ (by omega)]
   simp only [e1,X4]
   exact Xeu h hn w G n (i + 1) f (by omega) (by omega)
theorem c_sIndex {v:Value} {ws:List Str} {m:Mem} (h:SL m v ws) (hn:ws.length ≤ 65536) (w:Str) (d:Nat):TA (d + 1) Q31 [v,sv w] m=some (idxV (idxO w ws 0),m):=by
 rw [X34]
 refine X1l (m1:=withLow m m.next) ?_ (Fr.refl _ _) ?_
 ·have k:SL (withLow m m.next) v ws:=h
  generalize withLow m m.next=m0 at k
  unfold Q1g Q4s Q4t
  simp only [k.len,X4]
  have:=Xeu k hn w ⟨TA d,18446744073709551616⟩ ws.length 0 18446744073709551616 (by omega) (by omega)
  rw [List.drop_zero] at this
  exact this
 ·cases idxO w ws 0 <;> rfl
theorem PS.call1 (h:PS c cap m φ s) {b:Mem→Option Rs} (g:Res c (withLow m m.next) φ s (b (withLow m m.next)) Q):Res c m φ s (outOf m (b (withLow m m.next))) Q:=by
 obtain ⟨v,m1,cap1,φ1,s1,k1,k2,k3,k4⟩:=g
 obtain ⟨m2,q1,q2,q3⟩:=h.nr.call k1 k2.nr k3
 exact ⟨v,m2,cap1,φ1,s1,q1,h.step q2 q3 ⟨by rw [h.pP,k2.pP],by rw [h.pC,k2.pC],by rw [h.pO,k2.pO]⟩ k2.ok,q3,k4⟩
noncomputable def SLx (c:Cx) (m:Mem) (φ:Phi) (s:PSt) (v:Value) (ws:List Str):Prop:=
 ∃ b o r cs fro ro ty,v=.slice (some ⟨b,o,some 1⟩) ws.length r∧b < m.next∧(∀ k,toX c s k ≠ none→(φ k).b ≠ b)∧m.get b=some (.cells cs (r / 2) fro ro ty)∧o + ws.length ≤ cs.length∧∀ i w,ws[i]?=some w→cs[o + i]?=some (sv w)
theorem SLx.sl {v:Value} {ws:List Str} (h:SLx c m φ s v ws):SL m v ws:=by
 obtain ⟨b,o,r,cs,fro,ro,ty,h1,h2,h3,h4,h5⟩:=h
 exact ⟨b,o,r,cs,fro,ro,ty,h1,h2,h4,h5⟩
theorem SLx.wk {v:Value} {ws:List Str} (h:SLx c m φ s v ws) {m1:Mem} {φ1:Phi} {s1:PSt} (w:Wk m φ (toX c s) m1 φ1 (toX c s1)):SLx c m1 φ1 s1 v ws:=by
 obtain ⟨b,o,r,cs,fro,ro,ty,h1,h2,h3,h4,h5⟩:=h
 refine ⟨b,o,r,cs,fro,ro,ty,h1,Nat.lt_of_lt_of_le h2 w.next,fun k hk=>?_,by rw [w.get _ h2 h3]; exact h4,h5⟩
 rcases w.nw k hk with q | ⟨k0,q1,q2⟩
 ·omega
 ·rw [← q2]; exact h3 k0 q1
theorem W.slx (h:W c m0 φ0 s0 cap m φ s ts) {b:Nat} {ws:List Str} (hb:(b,0,ws.map sv) ∈ ts):SLx c m φ s (.slice (some ⟨b,0,some 1⟩) ws.length 1) ws:=by
 obtain ⟨ty,q⟩:=h.at' _ hb
 refine ⟨b,0,1,ws.map sv,0,false,ty,rfl,(h.lt _ hb).2,h.nx _ hb,q,by simp,fun i w hw=>?_⟩
 rw [Nat.zero_add,List.getElem?_map,hw]
 rfl
theorem X6d (h:PS c cap m φ s) {v:Value} {ws:List Str} (hv:SLx c m φ s v ws) (hn:ws.length ≤ 65536) (d:Nat):CuC c cap m φ s (TA (d + 3) Qr [pt c.C 0 0,v] m) (I (oneC c s.cu ws).1) (oneC c s.cu ws).2:=by
 rw [Xan]
 refine CuC.ofRes (h.call1 ?_)
 have k:=W.start (h.wl' m.next)
 have kv:SLx c (withLow m m.next) φ s v ws:=hv
 generalize withLow m m.next=m0 at k kv
 unfold Q5h Qc6
 refine k.call (X2p k.ps d) fun m1 k1=>?_
 have kv1:=kv.wk k1.wk
 simp only [c_sIndex kv1.sl hn _ (d + 1),X6]
 unfold Qc7 Q82 oneC
 cases idxO (Xk c s.cu).1 ws 0 with
 | none =>
  have e1:bin .lss true true .int (idxV none) (.int .i64 0)=some (.bool true):=by
   show bin .lss true true .int (.int .i64 (-1)) (.int .i64 0)=_
   rw [Qw]; rfl
  have e2:aMax (idxV none) (.int .i64 0)=some (I 0):=Eq.trans rfl rfl
  simp only [e1,X4,Xc]
  refine k1.call (X3n k1.ps 130 (by decide) d) fun m2 k2=>?_
  simp only [e2,X4]
  exact k2.retc
 | some i =>
  have e1:bin .lss true true .int (idxV (some i)) (.int .i64 0)=some (.bool false):=by
   show bin .lss true true .int (I i) (.int .i64 0)=_
   rw [Qw,decide_eq_false (by omega)]
  have e2:aMax (idxV (some i)) (.int .i64 0)=some (I i):=by
   have:=Xu6 i 0
   rw [Nat.max_eq_left (Nat.zero_le _)] at this
   exact this
  simp only [e1,X4,Xa,e2]
  exact k1.retc
end Go.Ab.Sh

set_option maxRecDepth 100000
namespace Go.Ab.Sh
open Go Go.Ab Go.Lib
variable {c:Cx} {m0 m:Mem} {φ0 φ:Phi} {s0 s:PSt} {cap:Nat} {ts:List Tmp} {x:Option Rs} {Q:Value→Nat→Phi→PSt→Prop} {v:Value} {cu:Cu}
theorem X6a {k:Key} (h1:k ≠ [1]) (h0:k ≠ [0]):toX c s k=s.X k:=by
 unfold toX
 rw [NX.set_ne _ _ h1]
 cases hx:s.X [0] with
 | none=>unfold stF; rw [hx]
 | some o =>
  cases o with
  | c l=>rw [X1c hx]; exact NX.set_ne _ _ h0
  | m es cl=>unfold stF; rw [hx]
theorem X7g {l:List Cl} (h:s.X [0]=some (.c l)):toX c s [0]=some (.c (l.take 12 ++ (midV c s).map .v ++ l.drop 15)):=by
 unfold toX
 rw [NX.set_ne _ _ (by decide),X1c h,NX.set_eq]
 rfl
theorem Xs9 {l:List Cl} (hl:l.length=18) (y:List Cl) (hy:y.length=3) (o:Nat) (h:o < 12∨15 ≤ o):(l.take 12 ++ y ++ l.drop 15)[o]?=l[o]?:=by
 have e1:(l.take 12).length=12:=by simp; omega
 rw [get3,e1,hy]
 by_cases a:o < 12
 ·rw [if_pos a,List.getElem?_take,if_pos a]
 ·rw [if_neg a,if_neg (by omega),List.getElem?_drop]
  congr 1
  omega
theorem X7r {k:Key} {l:List Cl} (w:WT s.X) (h1:k ≠ [1]) (hk:s.X k=some (.c l)):∃ l',toX c s k=some (.c l')∧l'.length=l.length∧∀ o,(k=[0]→o < 12∨15 ≤ o)→l'[o]?=l[o]?:=by
 by_cases h0:k=[0]
 ·subst h0
  obtain ⟨l2,a,b⟩:=w.root
  rw [hk] at a
  cases a
  exact ⟨_,X7g hk,by simp [midV]; omega,fun o h=>Xs9 b _ rfl o (h rfl)⟩
 ·exact ⟨l,by rw [X6a h1 h0]; exact hk,rfl,fun _ _=>rfl⟩
theorem X26 (X:NX) {k k':Key} (a b:Option NO) (h:k ≠ k'):(X.set k a).set k' b=(X.set k' b).set k a:=by
 funext q
 unfold NX.set
 by_cases h1:q=k' <;> by_cases h2:q=k <;> simp [h1,h2]
 ·subst h1; exact absurd h2.symm h
 ·intro e; exact absurd e.symm h
 ·intro e; exact absurd e h
theorem put3 {l:List Cl} (hl:l.length=18) (y z:List Cl) (hy:y.length=3) (o:Nat) (ho:o + z.length ≤ 18) (h:o + z.length ≤ 12∨15 ≤ o) :
  (l.take 12 ++ y ++ l.drop 15).take o ++ z ++ (l.take 12 ++ y ++ l.drop 15).drop (o + z.length)=(l.take o ++ z ++ l.drop (o + z.length)).take 12 ++ y ++ (l.take o ++ z ++ l.drop (o + z.length)).drop 15:=by
 have e:(15:Nat)=12 + y.length:=by omega
 rw [e]
 have l1:(l.take 12 ++ y ++ l.drop (12 + y.length)).length=18:=by rw [Xpb (by omega),hl]
 have l2:(l.take o ++ z ++ l.drop (o + z.length)).length=18:=by rw [Xpb (by omega),hl]
 apply List.ext_getElem?
 intro i
 rw [get_put (by omega),get_put (by omega),get_put (by omega),get_put (by omega)]
 by_cases p:o ≤ i∧i < o + z.length
 ·rw [if_pos p,if_neg (by omega)]; rw [if_pos p]
 ·rw [if_neg p]
  by_cases q:12 ≤ i∧i < 12 + y.length
  ·rw [if_pos q,if_pos q]
  ·rw [if_neg q,if_neg q,if_neg p]
theorem Xxi {k:Key} {l:List Cl} {o:Nat} {xs:List Value} (w:WT s.X) (h1:k ≠ [1]) (hk:s.X k=some (.c l)) (ho:o + xs.length ≤ l.length) (h12:k=[0]→o + xs.length ≤ 12∨15 ≤ o) :
  stF (toX c s) k o xs=toX c { s with X:=stF s.X k o xs }:=by
 obtain ⟨lr,hr,hr2⟩:=w.root
 by_cases h0:k=[0]
 ·subst h0
  rw [hk] at hr
  cases hr
  have h12:=h12 rfl
  rw [X1c (X7g hk)]
  have hX:stF s.X [0] o xs=s.X.set [0] (some (.c (l.take o ++ xs.map .v ++ l.drop (o + xs.length)))):=X1c hk _ _
  have hX0:stF s.X [0] o xs [0]=some (.c (l.take o ++ xs.map .v ++ l.drop (o + xs.length))):=by rw [hX,NX.set_eq]
  have hp:=put3 hr2 ((midV c s).map .v) (xs.map Cl.v) rfl o (by simpa [hr2] using ho) (by simpa using h12)
  rw [List.length_map] at hp
  rw [hp]
  have e:toX c { s with X:=stF s.X [0] o xs }=(stF (stF s.X [0] o xs) [0] 12 (midV c s)).set [1] (some (.c (cc c s.cu))):=rfl
  rw [e,X1c hX0,hX,NX.set_set]
  unfold toX
  rw [X1c hk,X26 _ _ _ (show ([1]:Key) ≠ [0] by decide),NX.set_set]
  rfl
 ·rw [X1c (show toX c s k=some (.c l) by rw [X6a h1 h0]; exact hk)]
  have hX:stF s.X k o xs=s.X.set k (some (.c (l.take o ++ xs.map .v ++ l.drop (o + xs.length)))):=X1c hk _ _
  have hX0:stF s.X k o xs [0]=some (.c lr):=by rw [hX,NX.set_ne _ _ (Ne.symm h0)]; exact hr
  have e:toX c { s with X:=stF s.X k o xs }=(stF (stF s.X k o xs) [0] 12 (midV c s)).set [1] (some (.c (cc c s.cu))):=rfl
  rw [e,X1c hX0,hX]
  unfold toX
  rw [X1c hr,X26 _ _ _ (Ne.symm h1),X26 _ _ _ (Ne.symm h0)]
theorem PS.ldv (h:PS c cap m φ s) {k:Key} {l:List Cl} {o:Nat} {y:Value} (h1:k ≠ [1]) (hk:s.X k=some (.c l)) (h12:k=[0]→o < 12∨15 ≤ o) (hy:l[o]?=some (.v y)):X7 false 1 (pt (φ k).b o (φ k).ver) m=some y:=by
 obtain ⟨l',a,_,b⟩:=X7r (c:=c) h.wt h1 hk
 exact h.nr.load (c:=.v y) a (by rw [b o h12]; exact hy)
theorem PS.ldl (h:PS c cap m φ s) {k:Key} {l:List Cl} {o n sz:Nat} (h1:k ≠ [1]) (hk:s.X k=some (.c l)) (h12:k=[0]→o < 12∨15 ≤ o) (hy:l[o]?=some (.s n sz)):X7 false 1 (pt (φ k).b o (φ k).ver) m=some (slV (φ (o :: k)) n sz):=by
 obtain ⟨l',a,_,b⟩:=X7r (c:=c) h.wt h1 hk
 exact h.nr.load (c:=.s n sz) a (by rw [b o h12]; exact hy)
theorem W.stv (h:W c m0 φ0 s0 cap m φ s ts) {k:Key} {l:List Cl} {r o n:Nat} {x:Value} (hk:s.X k=some (.c l)) (hr:kt k=some r) (hn:x.cells.size=n) (h1:x.cells.toList.all one=true) (ho:o + n ≤ l.length) (h12:k=[0]→o + n ≤ 12∨15 ≤ o)
  (hty:∀ i y,x.cells.toList[i]?=some y→okc (fdAt r (o + i)) (.v y)) {K:Mem→Option Rs}
  (g:∀ m1,W c m0 φ0 s0 cap m1 φ { s with X:=stF s.X k o x.cells.toList } ts→Res c m0 φ0 s0 (K m1) Q) :
  Res c m0 φ0 s0 (bp (unt (X8 n (pt (φ k).b o (φ k).ver) x m)) fun _ m=>K m) Q:=by
 have hk1:=(X1j hr).1
 have hnl:x.cells.toList.length=n:=by rw [Array.length_toList]; exact hn
 obtain ⟨l',a,al,b⟩:=X7r (c:=c) h.ps.wt hk1 hk
 obtain ⟨m1,b1,b2,b3⟩:=h.ps.nr.put' (k:=k) o n x _ a hn h1 (by omega) (fun i hi=>by
  obtain ⟨d,d1,d2⟩:=h.ps.wt.get hk hr (o:=o + i) (by omega)
  obtain ⟨y,hy⟩:∃ y,x.cells.toList[i]?=some y:=⟨_,List.getElem?_eq_getElem (by omega)⟩
  obtain ⟨z,rfl⟩:=Xyi (hty i y hy) d2
  refine ⟨z,?_⟩
  rw [b (o + i) (fun e=>by rcases h12 e with q | q <;> omega)]
  exact d1) rfl
 have e:(toX c s).set k (some (.c (l'.take o ++ x.cells.toList.map .v ++ l'.drop (o + n))))=toX c { s with X:=stF s.X k o x.cells.toList }:=by
  rw [← Xxi h.ps.wt hk1 hk (by rw [hnl]; exact ho) (by rw [hnl]; exact h12),X1c a,hnl]
 rw [e] at b2 b3
 rw [b1,Xp]
 exact g m1 (h.go (h.ps.step b2 b3 ⟨rfl,rfl,rfl⟩ ⟨h.ps.ok.le,h.ps.ok.ee,h.ps.wt.st hk hr (by rw [hnl]; exact ho) hty,h.ps.ok.il,h.ps.ok.ge.to fun k' o' _=>Nat.le_of_eq (Xom h.ps.wt hk hr (by rw [hnl]; exact ho) hty k' o').symm⟩) b3)
theorem Xrt (h:PS c cap m φ s) {k:Key} {l:List Cl} {r r' o n:Nat} (hk:s.X k=some (.c l)) (hr:kt k=some r) (hf:fdAt r o=some (.l r')) (ho:l[o]?=some (.s n (rowL r'))) :
  n ≤ cap∧(X23 s.X (o :: k)).length=n * rowL r'∧X23 (toX c s) (o :: k)=X23 s.X (o :: k):=by
 have hk1:=(X1j hr).1
 have hr2:=X2z hr hf
 have hk2:=(X1j hr2).1
 have hk0:o :: k ≠ [0]:=fun e=>by injection e with e1 e2; exact X32 hr e2
 obtain ⟨l',a,al,b⟩:=X7r (c:=c) h.wt hk1 hk
 have h12:k=[0]→o < 12∨15 ≤ o:=fun e=>by
  subst e
  cases hr
  rcases Nat.lt_or_ge o 12 with q | q
  ·exact .inl q
  ·refine .inr (Nat.le_of_not_lt fun q2=>?_)
   have:o=12∨o=13∨o=14:=by omega
   rcases this with rfl | rfl | rfl <;> cases hf
 have:=h.nr.ow k l' o n (rowL r') a (by rw [b o h12]; exact ho)
 have e:X23 (toX c s) (o :: k)=X23 s.X (o :: k):=by unfold X23; rw [X6a hk2 hk0]
 refine ⟨this.1,?_,e⟩
 have w:=this.2.2
 rw [X6a hk2 hk0] at w
 unfold X23
 by_cases hz:n=0
 ·rw [if_pos hz] at w
  rw [w,hz]; simp
 ·rw [if_neg hz] at w
  obtain ⟨l2,w1,w2⟩:=w
  rw [w1]; exact w2
theorem Xx3 {k:Key} {l:List Cl} {r r' o n:Nat} {cs:List Cl} (w:WT s.X) (hk:s.X k=some (.c l)) (hr:kt k=some r) (hf:fdAt r o=some (.l r')) (ho:l[o]?=some (.s n (rowL r'))) (hc:cs.length=rowL r') {l':List Cl} (a:toX c s k=some (.c l')) :
  ((toX c s).set (o :: k) (some (.c (X23 s.X (o :: k) ++ cs)))).set k (some (.c (l'.set o (.s (n + 1) (rowL r')))))=toX c { s with X:=apF s.X k o cs }:=by
 obtain ⟨lr,hrt,hr2⟩:=w.root
 have hk1:=(X1j hr).1
 have hk2:o :: k ≠ [1]:=fun e=>by injection e with e1 e2; exact X32 hr e2
 have hk0:o :: k ≠ [0]:=fun e=>by injection e with e1 e2; exact X32 hr e2
 have hX:=Xc8 hk ho cs hc
 have e:toX c { s with X:=apF s.X k o cs }=(stF (apF s.X k o cs) [0] 12 (midV c s)).set [1] (some (.c (cc c s.cu))):=rfl
 have hko:o :: k ≠ k:=X30 o k
 rw [e]
 by_cases h0:k=[0]
 ·subst h0
  rw [hk] at hrt
  cases hrt
  rw [X7g hk] at a
  cases a
  have hX0:apF s.X [0] o cs [0]=some (.c (l.set o (.s (n + 1) (rowL r')))):=by rw [hX,NX.set_eq]
  have h12:o < 12∨15 ≤ o:=by
   cases hr
   rcases Nat.lt_or_ge o 12 with q | q
   ·exact .inl q
   ·refine .inr (Nat.le_of_not_lt fun q2=>?_)
    have:o=12∨o=13∨o=14:=by omega
    rcases this with rfl | rfl | rfl <;> cases hf
  have hol:o < l.length:=(List.getElem?_eq_some_iff.mp ho).1
  have hl:(l.take 12 ++ (midV c s).map Cl.v ++ l.drop 15).set o (.s (n + 1) (rowL r'))=(l.set o (.s (n + 1) (rowL r'))).take 12 ++ (midV c s).map .v ++ (l.set o (.s (n + 1) (rowL r'))).drop (12 + (midV c s).length):=by
   apply List.ext_getElem?
   intro i
   have ml:((midV c s).map Cl.v).length=3:=rfl
   have g1:=get_put (l:=l) (z:=(midV c s).map Cl.v) (o:=12) (by rw [ml]; omega) i
   have g2:=get_put (l:=l.set o (.s (n + 1) (rowL r'))) (z:=(midV c s).map Cl.v) (o:=12) (by rw [ml,List.length_set]; omega) i
   have g3:(l.take 12 ++ (midV c s).map Cl.v ++ l.drop 15).length=18:=by simp [midV]; omega
   rw [ml] at g1 g2
   rw [List.getElem?_set]
   refine Eq.trans ?_ g2.symm
   show (if o=i then if o < _ then _ else none else (l.take 12 ++ (midV c s).map Cl.v ++ l.drop (12 + 3))[i]?)=_
   rw [g1,g3,List.getElem?_set]
   by_cases q:o=i
   ·subst q
    rw [if_pos rfl,if_pos (by omega),if_neg (by omega),if_pos rfl,if_pos hol]
   ·rw [if_neg q,if_neg q]
  rw [X1c hX0,hX,hl]
  unfold toX
  rw [X1c hk,NX.set_set,X26 _ _ _ (Ne.symm hk2),X26 _ _ _ (show ([1]:Key) ≠ [0] by decide),X26 s.X _ _ (Ne.symm hk0),NX.set_set]
 ·have hl':l'=l:=by
   rw [X6a hk1 h0,hk] at a
   cases a; rfl
  subst hl'
  have hX0:apF s.X k o cs [0]=some (.c lr):=by rw [hX,NX.set_ne _ _ (Ne.symm h0),NX.set_ne _ _ (Ne.symm hk0)]; exact hrt
  rw [X1c hX0,hX]
  unfold toX
  rw [X1c hrt,X26 _ _ _ (Ne.symm hk2),X26 _ _ _ (Ne.symm hk0),X26 _ _ _ (Ne.symm hk1),X26 _ _ _ (Ne.symm h0)]
theorem W.apv2 {b2:Nat} {cs:List Cl} (h:W c m0 φ0 s0 cap m φ s ((b2,0,cs.map Cl.raw) :: ts)) {k:Key} {l:List Cl} {r r' o n e bytes:Nat} (hk:s.X k=some (.c l)) (hr:kt k=some r) (hf:fdAt r o=some (.l r')) (ho:l[o]?=some (.s n (rowL r'))) (hc:cs.length=rowL r') (hnew:cs.all Cl.new=true)
  (hcs:∀ (i:Nat) (d:Cl),cs[i]?=some d→okc ((rowT r')[i]?) d) (hb:fits (n + 1) bytes=true) {K:Mem→Option Rs} {K2:Value→Mem→Option Rs}
  (hK:∀ v' m1,(∀ a,toX c s a ≠ none→a ≠ o :: k→m1.get (φ a).b=m.get (φ a).b)→K2 v' m1=bp (unt (X8 1 (pt (φ k).b o (φ k).ver) v' m1)) fun _ m=>K m)
  (g:∀ cap1 m1 φ1,cap1 ≤ cap + 1→(∀ k',k' ≠ o :: k→φ1 k'=φ k')→W c m0 φ0 s0 cap1 m1 φ1 { s with X:=apF s.X k o cs } ts→Res c m0 φ0 s0 (K m1) Q) :
  Res c m0 φ0 s0 (bp (apS e (rowL r') bytes (slV (φ (o :: k)) n (rowL r')) (.slice (some ⟨b2,0,some (rowL r')⟩) 1 1) m) K2) Q:=by
 have hk1:=(X1j hr).1
 obtain ⟨hcap,hol,hoe⟩:=Xrt h.ps hk hr hf ho
 obtain ⟨l',a,al,b⟩:=X7r (c:=c) h.ps.wt hk1 hk
 have h12:k=[0]→o < 12∨15 ≤ o:=fun e=>by
  subst e
  cases hr
  rcases Nat.lt_or_ge o 12 with q | q
  ·exact .inl q
  ·refine .inr (Nat.le_of_not_lt fun q2=>?_)
   have:o=12∨o=13∨o=14:=by omega
   rcases this with rfl | rfl | rfl <;> cases hf
 obtain ⟨ty2,hb2⟩:=h.at' _ (List.mem_cons_self ..)
 obtain ⟨v',m1,m2,φ',q1,q2,q3,q4,q5,_,_,q8⟩:=h.ps.nr.app (e:=e) (bytes:=bytes) (cs:=cs) a (by rw [b o h12]; exact ho) hb2 hc hnew hb
 rw [hoe,Xx3 h.ps.wt hk hr hf ho hc a] at q3 q4
 have q1:apS e (rowL r') bytes (slV (φ (o :: k)) n (rowL r')) (.slice (some ⟨b2,0,some (rowL r')⟩) 1 1) m=some (v',m1):=q1
 rw [q1,X6,hK _ _ q8,q2,Xp]
 have hk0:([0]:Key) ≠ o :: k:=fun e=>by injection e with e1 e2; exact X32 hr e2.symm
 have hk2:([1]:Key) ≠ o :: k:=fun e=>by injection e with e1 e2; exact X32 hr e2.symm
 have hk3:([2]:Key) ≠ o :: k:=fun e=>by injection e with e1 e2; exact X32 hr e2.symm
 refine g (max cap (n + 1)) m2 φ' (by omega) q5 ((h.go (h.ps.step q3 q4 ⟨q5 _ hk0,q5 _ hk2,q5 _ hk3⟩ ⟨h.ps.ok.le,h.ps.ok.ee,h.ps.wt.ap hk hr hf ho hol hc hcs,h.ps.ok.il,h.ps.ok.ge.to fun k' o' _=>Xop hk ho cs hc k' o'⟩) q4).tl)
theorem W.apv {b2:Nat} {cs:List Cl} (h:W c m0 φ0 s0 cap m φ s ((b2,0,cs.map Cl.raw) :: ts)) {k:Key} {l:List Cl} {r r' o n e bytes:Nat} (hk:s.X k=some (.c l)) (hr:kt k=some r) (hf:fdAt r o=some (.l r')) (ho:l[o]?=some (.s n (rowL r'))) (hc:cs.length=rowL r') (hnew:cs.all Cl.new=true)
  (hcs:∀ (i:Nat) (d:Cl),cs[i]?=some d→okc ((rowT r')[i]?) d) (hb:fits (n + 1) bytes=true) {K:Mem→Option Rs}
  (g:∀ cap1 m1 φ1,cap1 ≤ cap + 1→(∀ k',k' ≠ o :: k→φ1 k'=φ k')→W c m0 φ0 s0 cap1 m1 φ1 { s with X:=apF s.X k o cs } ts→Res c m0 φ0 s0 (K m1) Q) :
  Res c m0 φ0 s0 (bp (apS e (rowL r') bytes (slV (φ (o :: k)) n (rowL r')) (.slice (some ⟨b2,0,some (rowL r')⟩) 1 1) m) fun x m=>bp (unt (X8 1 (pt (φ k).b o (φ k).ver) x m)) fun _ m=>K m) Q:=
 h.apv2 hk hr hf ho hc hnew hcs hb (fun _ _ _=>rfl) g
end Go.Ab.Sh

set_option maxRecDepth 100000
namespace Go.Ab.Sh
open Go Go.Ab Go.Lib
noncomputable def digB (b:UInt8):Bool:=decide (48 ≤ b.toNat) && decide (b.toNat ≤ 57)
noncomputable def Xnn (s:Str):Bool:=decide (s ≠ []) && s.all digB && (decide (s=[48]) || decide (s.head? ≠ some 48))
noncomputable def Xf (c:Cx) (cu:Cu) (lo:Int) (hi:Nat):Int × Cu:=
 if Xnn (Xk c cu).1=true then ((numV (num hi (Xk c cu).1):Int),if (num hi (Xk c cu).1).isSome=true∧lo ≤ (numV (num hi (Xk c cu).1):Int) then (Xk c cu).2 else badC c (Xk c cu).2 131) else (0,badC c (Xk c cu).2 130)
noncomputable def X1o (c:Cx) (cu:Cu):Nat × Cu:=match Xen (Xk c cu).1 with | some a=>(a,(Xk c cu).2) | none=>(0,badC c (Xk c cu).2 130)
noncomputable def hopC (c:Cx) (cu:Cu):Nat × Cu:=((X1o c cu).1,if (X1o c cu).1=0 then badC c (X1o c cu).2 131 else (X1o c cu).2)
end Go.Ab.Sh

set_option maxRecDepth 100000
namespace Go.Ab
open Go Go.Lib
theorem Xut (b n i:Nat) (h:i < n) (k:IntKind):X1w n 1 (pt b 0 0) (.int k (i:Int))=some (pt b i 0):=by
 show (if (0:Int) ≤ (i:Int) && (i:Int) < (n:Int) then some (Value.pointer (some ⟨b,0 + (i:Int).toNat * 1,some 0⟩)) else none)=_
 have h1:(decide ((0:Int) ≤ (i:Int)) && decide ((i:Int) < (n:Int)))=true:=by simp; omega
 rw [if_pos h1]
 simp
end Go.Ab
namespace Go.Ab.Sh
open Go Go.Ab Go.Lib
noncomputable def digs:Str:=[48,49,50,51,52,53,54,55,56,57]
noncomputable def setK (k:Nat):List Value:=(List.range 256).map fun i=>.bool (decide (48 ≤ i) && decide (i < 48 + k))
theorem X2l (k:Nat):(setK k).length=256:=by unfold setK; simp
theorem Xax (k i:Nat) (h:i < 256):(setK k)[i]?=some (.bool (decide (48 ≤ i) && decide (i < 48 + k))):=by
 unfold setK
 rw [List.getElem?_map,List.getElem?_range h]
 rfl
theorem Xqa (k:Nat) (h:k < 10):(setK k).take (48 + k) ++ [.bool true] ++ (setK k).drop (48 + k + 1)=setK (k + 1):=by
 apply List.ext_getElem?
 intro i
 have e1:((setK k).take (48 + k)).length=48 + k:=by simp [X2l]; omega
 rw [get3,e1]
 by_cases h1:i < 48 + k
 ·rw [if_pos h1,List.getElem?_take,if_pos h1,Xax _ _ (by omega),Xax _ _ (by omega)]
  congr 3
  simp only [decide_eq_decide]
  omega
 ·rw [if_neg h1]
  by_cases h2:i < 48 + k + [Value.bool true].length
  ·have:i=48 + k:=by simp at h2; omega
   subst this
   rw [if_pos h2,Nat.sub_self,Xax _ _ (by omega)]
   have a:decide (48 ≤ 48 + k)=true:=decide_eq_true (by omega)
   have b:decide (48 + k < 48 + (k + 1))=true:=decide_eq_true (by omega)
   rw [a,b]; rfl
  ·have h3:48 + k + 1 ≤ i:=by simp at h2; omega
   rw [if_neg h2,List.getElem?_drop,show 48 + k + 1 + (i - (48 + k) - [Value.bool true].length)=i by simp; omega]
   by_cases h4:i < 256
   ·rw [Xax _ _ h4,Xax _ _ h4]
    congr 3
    simp only [decide_eq_decide]
    omega
   ·rw [List.getElem?_eq_none (by rw [X2l]; omega),List.getElem?_eq_none (by rw [X2l]; omega)]
theorem Xvx:∀ k,k < 10→(digs[k]?).map UInt8.toNat=some (48 + k):=by decide
theorem Xmq (k:Nat):(setK k).all one=true:=by
 rw [List.all_eq_true]
 intro x hx
 obtain ⟨i,_,rfl⟩:=List.mem_map.mp hx
 rfl
theorem Xfp (G:Gt) (b B:Nat) (ty:Option Nat) (hB:B ≤ b):∀ n k f (m:Mem),k + n=10→n < f→m.get b=some (.cells (setK k) 0 0 false ty) →
  ∃ m',Q2e G f (I k) (sv digs) (pt b 0 0) m=some (.tuple ⟨[.agg ⟨setK 10⟩,.bool true]⟩,m')∧Fb B m m'
 | 0,k,f + 1,m,e,hf,hb=>by
  have:k=10:=by omega
  subst this
  obtain ⟨m',k1,k2⟩:=X1s (o:=0) (n:=256) (v:=.agg ⟨setK 10⟩) (c':=setK 10) hb (by show (setK 10).length=256; exact X2l 10) (Nat.zero_le _) (by rw [X2l]; omega) (Xmq 10) (by
   show [] ++ setK 10 ++ (setK 10).drop 256=_
   rw [List.drop_eq_nil_of_le (Nat.le_of_eq (X2l 10)),List.append_nil,List.nil_append])
  have hb2:m'.get b=some (.cells (setK 10) 0 0 false ty):=by rw [k2.get,Mem.get_put,if_pos rfl]
  have l1:X7 true 256 (pt b 0 0) m=some (.agg ⟨setK 10⟩):=Xx hb (by rw [X2l]; omega) (by rw [List.drop_zero,List.take_of_length_le (Nat.le_of_eq (X2l 10))])
  have l2:X7 true 256 (pt b 0 0) m'=some (.agg ⟨setK 10⟩):=Xx hb2 (by rw [X2l]; omega) (by rw [List.drop_zero,List.take_of_length_le (Nat.le_of_eq (X2l 10))])
  refine ⟨m',?_,((Fb.refl B _).put _ hB).meq k2⟩
  unfold Q2e
  have e1:bin .lss false true .int (I (10:Nat)) (.int .i64 ((digs.length:Nat):Int))=some (.bool false):=by rw [Qw]; rfl
  simp only [X3r,X4,e1,Xa]
  unfold Q8k
  simp only [l1,X4,k1,Xp,l2]
  rfl
 | n + 1,k,f + 1,m,e,hf,hb=>by
  have hk:k < 10:=by omega
  have hd:k < digs.length:=hk
  have hx:(digs[k]).toNat=48 + k:=by
   have:=Xvx k hk
   rw [List.getElem?_eq_getElem hd] at this
   exact Option.some.inj this
  obtain ⟨m',k1,k2,k3,k4,k5⟩:=Xn5 hb (o:=48 + k) (.bool true) rfl rfl (by rw [X2l]; omega) hB
  rw [Xqa k hk] at k4
  obtain ⟨m2,g1,g2⟩:=Xfp G b B ty hB n (k + 1) f m' (by omega) (by omega) k4
  refine ⟨m2,?_,k2.trans g2⟩
  unfold Q2e
  have e1:bin .lss false true .int (I k) (.int .i64 ((digs.length:Nat):Int))=some (.bool true):=by rw [Qw,decide_eq_true]; show (k:Int) < 10; omega
  have e2:Xh (sv digs) (I k)=some (.int .u8 ((48 + k:Nat):Int)):=by rw [X6c _ _ _ hd,hx]
  have e3:bin .geq true true .int (.int .u8 ((48 + k:Nat):Int)) (.int .u8 128)=some (.bool false):=by rw [Qhk,decide_eq_false (by omega)]
  have e4:=Xut b 256 (48 + k) (by omega) .u8
  have e5:bin .add true true .int (I k) (.int .i64 1)=some (I (k + 1:Nat)):=by
   rw [Q3p]
   have:((k:Nat):Int) + 1=((k + 1:Nat):Int):=by omega
   rw [this,wrap64 _ (by omega)]
  simp only [X3r,X4,e1,Xc,e2,e3,Xa,e4,k1,Xp,e5]
  exact g1
theorem Xsv (n:Nat):refs n 8 (.tuple ⟨[.agg ⟨setK 10⟩,.bool true]⟩)=true:=by kernel_rfl
theorem zset:Q2m=setK 0:=rfl
theorem c_mkset (d:Nat) (m:Mem):TA (d + 1) Q4u [sv digs] m=some (.tuple ⟨[.agg ⟨setK 10⟩,.bool true]⟩,m):=by
 rw [X6f]
 have hb:((withLow m m.next).push (.cells Q2m 0 0 false (some (2 * Q21 + 1)))).get (withLow m m.next).next=some (.cells (setK 0) 0 0 false (some (2 * Q21 + 1))):=by rw [Mem.get_push,if_pos rfl,zset]
 obtain ⟨m1,g1,g2⟩:=Xfp ⟨TA d,18446744073709551616⟩ _ m.next _ (Nat.le_refl _) 10 0 18446744073709551616 _ (by omega) (by omega) hb
 have F1:Fb m.next (withLow m m.next) ((withLow m m.next).push (.cells Q2m 0 0 false (some (2 * Q21 + 1)))):=Fb.push _ (Nat.le_refl _)
 refine X1x (m1:=m1) ?_ (F1.trans g2) (Xsv _)
 unfold Q33 Q8l Q8m
 rw [X12]
 exact g1
noncomputable def X9l (b:UInt8):Bool:=decide (48 ≤ b.toNat) && decide (b.toNat < 58)
theorem c_cont (b:Nat) (ty:Option Nat) (m:Mem) (hb:m.get b=some (.cells (setK 10) 0 0 false ty)) (x:UInt8) (d:Nat):TA (d + 1) Q2f [pt b 0 0,.int .u8 (x.toNat:Int)] m=some (.bool (X9l x),m):=by
 rw [X3u]
 refine X1x (m1:=withLow m m.next) ?_ (.refl _ _) rfl
 have hb:(withLow m m.next).get b=some (.cells (setK 10) 0 0 false ty):=hb
 have hx:x.toNat < 256:=x.toNat_lt
 have l1:X7 false 1 (pt b x.toNat 0) (withLow m m.next)=some (.bool (X9l x)):=X17 hb (Xax 10 _ hx)
 unfold Q1q
 simp only [Xj,X4,Xut b 256 _ hx .u8,l1]
noncomputable def X9e (s:Str):Str:=(s.reverse.dropWhile X9l).reverse
noncomputable def Xjj (s:Str):Str:=s.dropWhile X9l
theorem Xng (l:Str) (x:UInt8):X9e (l ++ [x])=if X9l x=true then X9e l else l ++ [x]:=by
 unfold X9e
 rw [List.reverse_append]
 show (List.dropWhile X9l (x :: l.reverse)).reverse=_
 rw [List.dropWhile_cons]
 by_cases h:X9l x=true
 ·rw [if_pos h,if_pos h]
 ·rw [if_neg h,if_neg h]; simp
theorem Xf2 (b:Nat) (ty:Option Nat) (m:Mem) (hb:m.get b=some (.cells (setK 10) 0 0 false ty)) (d:Nat):∀ n (s:Str) f,s.length=n→n ≤ 65536→n < f→Q1x ⟨TA (d + 1),18446744073709551616⟩ f (sv s) (pt b 0 0) m=some (sv (X9e s),m)
 | 0,s,f + 1,e,hl,hf=>by
  have:s=[]:=List.eq_nil_of_length_eq_zero e
  subst this
  unfold Q1x
  have e1:bin .gtr true true .int (.int .i64 (([]:Str).length:Int)) (.int .i64 0)=some (.bool false):=by rw [Qby]; rfl
  simp only [X3r,X4,e1,Xa]
  unfold Q2z
  rfl
 | n + 1,s,f + 1,e,hl,hf=>by
  have hne:s ≠ []:=fun e2=>by rw [e2] at e; cases e
  have hs:s=s.take n ++ [s[n]]:=by
   have:=List.take_append_drop n s
   rw [List.drop_eq_getElem_cons (by omega),List.drop_eq_nil_of_le (by omega)] at this
   exact this.symm
  have e1:bin .gtr true true .int (.int .i64 (s.length:Int)) (.int .i64 0)=some (.bool true):=by rw [Qby,decide_eq_true (by omega)]
  have e2:bin .sub true true .int (.int .i64 (s.length:Int)) (.int .i64 1)=some (I n):=by
   rw [Qf0]
   have:(s.length:Int) - 1=((n:Nat):Int):=by omega
   rw [this,wrap64 _ (by omega)]
  have e3:Xh (sv s) (I n)=some (.int .u8 ((s[n]).toNat:Int)):=X6c s .i64 n (by omega)
  unfold Q1x
  simp only [X3r,X4,e1,Xc,e2,e3,c_cont b ty m hb _ d,X6,X5m,Xg1 s n (by omega)]
  have ht:X9e s=if X9l s[n]=true then X9e (s.take n) else s:=by
   have:=Xng (s.take n) s[n]
   rw [← hs] at this
   exact this
  rw [ht]
  cases hd:X9l s[n] with
  | true =>
   simp only [Bool.not_true,Xa,if_true]
   exact Xf2 b ty m hb d n (s.take n) f (by simp; omega) (by omega) (by omega)
  | false =>
   simp only [Bool.not_false,Xc,Bool.false_eq_true,if_false]
   unfold Q2z
   rfl
theorem Xf3 (b:Nat) (ty:Option Nat) (m:Mem) (hb:m.get b=some (.cells (setK 10) 0 0 false ty)) (d:Nat):∀ (s:Str) f,s.length ≤ 65536→s.length < f→Q24 ⟨TA (d + 1),18446744073709551616⟩ f (sv s) (pt b 0 0) m=some (sv (Xjj s),m)
 | [],f + 1,hl,hf=>by
  unfold Q24
  have e1:bin .gtr true true .int (.int .i64 (([]:Str).length:Int)) (.int .i64 0)=some (.bool false):=by rw [Qby]; rfl
  simp only [X3r,X4,e1,Xa]
  unfold Q3c
  rfl
 | x :: s,f + 1,hl,hf=>by
  simp only [List.length_cons] at hl hf
  have e1:bin .gtr true true .int (.int .i64 ((x :: s).length:Int)) (.int .i64 0)=some (.bool true):=by rw [Qby,decide_eq_true (by simp only [List.length_cons]; omega)]
  have e3:Xh (sv (x :: s)) (.int .i64 0)=some (.int .u8 (x.toNat:Int)):=X6c (x :: s) .i64 0 (by simp)
  have e4:X11 (sv (x :: s)) (some (.int .i64 1)) none=some (sv s):=Xvz (x :: s) 1 (by simp) 1 rfl
  unfold Q24
  simp only [X3r,X4,e1,Xc,e3,c_cont b ty m hb _ d,X6,X5m,e4]
  unfold Xjj
  rw [List.dropWhile_cons]
  cases hd:X9l x with
  | true =>
   simp only [Bool.not_true,Xa,if_true]
   exact Xf3 b ty m hb d s f (by omega) (by omega)
  | false =>
   simp only [Bool.not_false,Xc,Bool.false_eq_true,if_false]
   unfold Q3c
   rfl
theorem Xpd (s:Str):(X9e s).length ≤ s.length:=by
 unfold X9e
 rw [List.length_reverse]
 have:=(List.dropWhile_sublist X9l (l:=s.reverse)).length_le
 rwa [List.length_reverse] at this
theorem c_trimR (b:Nat) (ty:Option Nat) (m:Mem) (hb:m.get b=some (.cells (setK 10) 0 0 false ty)) (s:Str) (hs:s.length ≤ 65536) (d:Nat):TA (d + 2) Q62 [sv s,pt b 0 0] m=some (sv (X9e s),m):=by
 rw [X53]
 refine X1x (m1:=withLow m m.next) ?_ (.refl _ _) rfl
 unfold Q2g Q7o
 exact Xf2 b ty (withLow m m.next) hb d s.length s 18446744073709551616 rfl hs (by omega)
theorem c_trimL (b:Nat) (ty:Option Nat) (m:Mem) (hb:m.get b=some (.cells (setK 10) 0 0 false ty)) (s:Str) (hs:s.length ≤ 65536) (d:Nat):TA (d + 2) Q44 [sv s,pt b 0 0] m=some (sv (Xjj s),m):=by
 rw [X69]
 refine X1x (m1:=withLow m m.next) ?_ (.refl _ _) rfl
 unfold Q2r Q83
 exact Xf3 b ty (withLow m m.next) hb d s 18446744073709551616 hs (by omega)
theorem c_trimD (s:Str) (hs:s.length ≤ 65536) (h0:s ≠ []) (d:Nat) (m:Mem):TA (d + 3) Qb0 [sv s,sv digs] m=some (sv (Xjj (X9e s)),m):=by
 rw [Xem]
 obtain ⟨m2,n1,n2,n3,n4⟩:=X2g [] (withLow m m.next) (some (2 * Q21 + 1)) Q2m (v:=.agg ⟨setK 10⟩) (n:=256) rfl (by show (setK 10).length=256; exact X2l 10) (Xmq 10)
 refine X1l (m1:=m2) ?_ n2 rfl
 unfold Q8c Qf7 Qc8 Qf8 Qc9
 have e1:bin .eql true true .str (sv s) (.string ⟨#[]⟩)=some (.bool false):=by
  show bin .eql true true .str (sv s) (sv [])=_
  rw [Qo,decide_eq_false h0]
 have e2:bin .eql true true .str (sv digs) (.string ⟨#[]⟩)=some (.bool false):=by
  show bin .eql true true .str (sv digs) (sv [])=_
  rw [Qo]; rfl
 have e3:bin .eql true true .int (.int .i64 ((digs.length:Nat):Int)) (.int .i64 1)=some (.bool false):=by rw [Q3y]; rfl
 have r1:=c_mkset (d + 1) (withLow m m.next)
 simp only [e1,e2,X4,Xa,X3r,e3,r1,X6,ex0,ex1]
 rw [X12]
 have n1:X8 256 (pt (withLow m m.next).next 0 0) (.agg ⟨setK 10⟩) ((withLow m m.next).push (.cells Q2m 0 0 false (some (2 * Q21 + 1))))=some m2:=n1
 have n4:m2.get (withLow m m.next).next=some (.cells (setK 10) 0 0 false (some (2 * Q21 + 1))):=n4
 have r2:=c_trimR _ _ m2 n4 s hs d
 have r3:=c_trimL _ _ m2 n4 (X9e s) (Nat.le_trans (Xpd s) hs) d
 simp only [n1,Xp,Xc,r2,r3,X6]
theorem Xv2 (x:UInt8):X9l x=digB x:=by
 unfold X9l digB
 congr 1
 simp only [decide_eq_decide]
 omega
theorem Xas (p:UInt8→Bool):∀ l:Str,l.dropWhile p=[] ↔ l.all p=true
 | []=>by simp
 | x :: l=>by
  rw [List.dropWhile_cons,List.all_cons]
  cases h:p x with
  | true=>simp only [if_true,Bool.true_and]; exact Xas p l
  | false=>simp
theorem Xtd (s:Str):Xjj (X9e s)=[] ↔ s.all digB=true:=by
 have hp:X9l=digB:=funext Xv2
 unfold Xjj X9e
 rw [hp,Xas,List.all_reverse]
 constructor
 ·intro h
  have h1:(s.reverse.dropWhile digB)=[]:=by
   cases hq:s.reverse.dropWhile digB with
   | nil=>rfl
   | cons y l =>
    have hy:digB y=false:=by
     have:=List.head_dropWhile_not digB (l:=s.reverse) (by rw [hq]; simp)
     simpa [hq] using this
    rw [hq] at h
    simp [hy] at h
  rw [Xas,List.all_reverse] at h1
  exact h1
 ·intro h
  have h1:(s.reverse.dropWhile digB)=[]:=by rw [Xas,List.all_reverse]; exact h
  rw [h1]; rfl
theorem c_form (s:Str) (hs:s.length ≤ 65536) (d:Nat) (m:Mem):TA (d + 5) Qgk [sv s] m=some (.bool (Xnn s),m):=by
 rw [Xkz]
 refine X1x (m1:=withLow m m.next) ?_ (.refl _ _) rfl
 generalize withLow m m.next=m0
 unfold Qcz Qh4 Q98 Xnn
 have e1:bin .neq true true .str (sv s) (.string ⟨#[]⟩)=some (.bool (decide (s ≠ []))):=by
  show bin .neq true true .str (sv s) (sv [])=_
  rw [Qkc]
 rw [e1,X4]
 by_cases h0:s=[]
 ·rw [decide_eq_false (by simpa using h0),Xa]
  rfl
 ·rw [decide_eq_true h0,Xc,Bool.true_and]
  have r:TA (d + 4) Qb0 [sv s,.string ⟨#[48,49,50,51,52,53,54,55,56,57]⟩] m0=_:=c_trimD s hs h0 (d + 1) m0
  have e2:bin .eql true true .str (sv (Xjj (X9e s))) (.string ⟨#[]⟩)=some (.bool (s.all digB)):=by
   show bin .eql true true .str (sv (Xjj (X9e s))) (sv [])=_
   rw [Qo]
   congr 2
   have:=Xtd s
   cases ha:s.all digB with
   | true=>exact decide_eq_true (this.mpr ha)
   | false=>exact decide_eq_false (fun e=>by rw [this.mp e] at ha; cases ha)
  simp only [r,X6,e2,X4]
  cases ha:s.all digB with
  | false =>
   rw [Xa,Bool.false_and]
  | true =>
   rw [Xc,Bool.true_and]
   have e3:bin .eql true true .str (sv s) (.string ⟨#[48]⟩)=some (.bool (decide (s=[48]))):=by
    show bin .eql true true .str (sv s) (sv [48])=_
    rw [Qo]
   rw [e3,X4]
   by_cases h1:s=[48]
   ·rw [decide_eq_true h1,Xc,Bool.true_or]
   ·rw [decide_eq_false h1,Xa,Bool.false_or]
    have hl:0 < s.length:=List.length_pos_iff.mpr h0
    have e4:Xh (sv s) (.int .i64 0)=some (.int .u8 ((s[0]).toNat:Int)):=X6c s .i64 0 hl
    rw [e4,X4,Q4z,X4]
    congr 3
    simp only [decide_eq_decide]
    rw [List.head?_eq_getElem?,List.getElem?_eq_getElem hl]
    constructor
    ·intro h e
     have:=Option.some.inj e
     exact h (by rw [this]; rfl)
    ·intro h e
     exact h (by congr 1; exact UInt8.toNat_inj.mp (by show (s[0]).toNat=48; omega))
noncomputable def len8T:Str:=[0,1,2,2,3,3,3,3,4,4,4,4,4,4,4,4,5,5,5,5,5,5,5,5,5,5,5,5,5,5,5,5,6,6,6,6,6,6,6,6,6,6,6,6,6,6,6,6,6,6,6,6,6,6,6,6,6,6,6,6,6,6,6,6,7,7,7,7,7,7,7,7,7,7,7,7,7,7,7,7,7,7,7,7,7,7,7,7,7,7,7,7,7,7,7,7,7,7,7,7,7,7,7,7,7,7,7,7,7,7,7,7,7,7,7,7,7,7,7,7,7,7,7,7,7,7,7,7,8,8,8,8,8,8,8,8,8,8,8,8,8,8,8,8,8,8,8,8,8,8,8,8,8,8,8,8,8,8,8,8,8,8,8,8,8,8,8,8,8,8,8,8,8,8,8,8,8,8,8,8,8,8,8,8,8,8,8,8,8,8,8,8,8,8,8,8,8,8,8,8,8,8,8,8,8,8,8,8,8,8,8,8,8,8,8,8,8,8,8,8,8,8,8,8,8,8,8,8,8,8,8,8,8,8,8,8,8,8,8,8,8,8,8,8,8,8,8,8,8,8,8,8,8,8,8,8]
noncomputable def len8 (n:Nat):Nat:=((len8T[n % 256]?).getD 0).toNat
noncomputable def Xii (n:Nat):Nat:=if 65536 ≤ n then (if 256 ≤ n / 65536 then 24 + len8 (n / 65536 / 256) else 16 + len8 (n / 65536)) else if 256 ≤ n then 8 + len8 (n / 256) else len8 n
theorem Xe0 (n:Nat):len8 n ≤ 8:=by
 have:∀ i,i < 256→((len8T[i]?).getD 0).toNat ≤ 8:=by decide
 exact this _ (Nat.mod_lt _ (by omega))
theorem Xsa (n:Nat) (h:n < 4294967296):Xii n ≤ 32:=by
 unfold Xii
 have:=Xe0 (n / 65536 / 256)
 have:=Xe0 (n / 65536)
 have:=Xe0 (n / 256)
 have:=Xe0 n
 split
 ·split <;> omega
 ·split <;> omega
noncomputable def lz32 (n:Nat):Nat:=32 - Xii n
noncomputable def Xo3 (m:Nat):Option Nat:=if 4294967295 - (2 ^ (32 - lz32 (4294967295 - m)) - 1)=m then some (lz32 (4294967295 - m)) else none
noncomputable def Xvf (o:Option Nat):Value:=match o with | some n=>.tuple ⟨[I n,I 0]⟩ | none=>.tuple ⟨[I 0,I 10]⟩
end Go.Ab.Sh

set_option maxRecDepth 100000
namespace Go.Ab
open Go Go.Lib
theorem Xle (a:Nat) (h:a < 4294967296):un .xor (.int .u32 (a:Int))=some (.int .u32 ((4294967295 - a:Nat):Int)):=by
 show some (Value.int .u32 (IntKind.u32.wrap ((BitVec.ofInt 32 (4294967295:Int) ^^^ BitVec.ofInt 32 (a:Int)).toNat:Int)))=_
 have e:(BitVec.ofInt 32 (4294967295:Int) ^^^ BitVec.ofInt 32 (a:Int)).toNat=4294967295 - a:=by
  have e1:BitVec.ofInt 32 (4294967295:Int)=BitVec.allOnes 32:=by decide
  have e2:BitVec.ofInt 32 (a:Int)=BitVec.ofNat 32 a:=BitVec.ofInt_natCast _ _
  rw [e1,e2,BitVec.allOnes_xor,BitVec.toNat_not,BitVec.toNat_ofNat,Nat.mod_eq_of_lt (by omega)]
 rw [e,IntWalk.u32_in _ (by omega)]
theorem Xka (c g:Bool) (a k:Nat) (ha:a < 4294967296) (hk:k ≤ 32):bin .shr c g .int (.int .u32 (a:Int)) (.int .u64 (k:Int))=some (.int .u32 ((a / 2 ^ k:Nat):Int)):=by
 rw [X1u]
 show (if ((k:Nat):Int) < 0 then none else some (Value.int .u32 ((a:Int).fdiv (2 ^ (min ((k:Nat):Int).toNat 32)))))=_
 rw [if_neg (by omega),Int.toNat_natCast,Nat.min_eq_left hk]
 have e:((2:Int) ^ k)=((2 ^ k:Nat):Int):=by rw [Int.natCast_pow]; rfl
 rw [e,Int.fdiv_eq_ediv_of_nonneg _ (Int.natCast_nonneg _),← Int.natCast_ediv]
end Go.Ab
namespace Go.Ab.Sh
open Go Go.Ab Go.Lib
theorem Xvs (n:Nat):Xh (sv len8T) (.int .u8 ((n % 256:Nat):Int))=some (.int .u8 (len8 n:Int)):=by
 have h:n % 256 < len8T.length:=Nat.mod_lt _ (by decide)
 rw [X6c _ _ _ h]
 unfold len8
 rw [List.getElem?_eq_getElem h]
 rfl
theorem Xgx (G:Gt) (k n:Nat) (hk:k ≤ 24) (m:Mem):Q6q G (I k) (.int .u32 (n:Int)) m=some (I (k + len8 n:Nat),m):=by
 unfold Q6q
 have e0:IntKind.u8.wrap (n:Int)=((n % 256:Nat):Int):=by
  show (n:Int) % 256=_
  omega
 have e1:=Xvs n
 have e1:Xh (.string ⟨#[0,1,2,2,3,3,3,3,4,4,4,4,4,4,4,4,5,5,5,5,5,5,5,5,5,5,5,5,5,5,5,5,6,6,6,6,6,6,6,6,6,6,6,6,6,6,6,6,6,6,6,6,6,6,6,6,6,6,6,6,6,6,6,6,7,7,7,7,7,7,7,7,7,7,7,7,7,7,7,7,7,7,7,7,7,7,7,7,7,7,7,7,7,7,7,7,7,7,7,7,7,7,7,7,7,7,7,7,7,7,7,7,7,7,7,7,7,7,7,7,7,7,7,7,7,7,7,7,8,8,8,8,8,8,8,8,8,8,8,8,8,8,8,8,8,8,8,8,8,8,8,8,8,8,8,8,8,8,8,8,8,8,8,8,8,8,8,8,8,8,8,8,8,8,8,8,8,8,8,8,8,8,8,8,8,8,8,8,8,8,8,8,8,8,8,8,8,8,8,8,8,8,8,8,8,8,8,8,8,8,8,8,8,8,8,8,8,8,8,8,8,8,8,8,8,8,8,8,8,8,8,8,8,8,8,8,8,8,8,8,8,8,8,8,8,8,8,8,8,8,8,8,8,8,8,8]⟩) (.int .u8 ((n % 256:Nat):Int))=_:=e1
 have hl:=Xe0 n
 have e2:bin .add false true .int (I k) (.int .i64 (len8 n:Int))=some (I (k + len8 n:Nat)):=by
  rw [Q3p]
  have:(k:Int) + (len8 n:Int)=((k + len8 n:Nat):Int):=by omega
  rw [this,wrap64 _ (by omega)]
 simp only [c_int,X6,e0,e1,X4,wrap64 _ (show len8 n < 9223372036854775808 by omega),e2]
theorem c_Len32 (n:Nat) (h:n < 4294967296) (d:Nat) (m:Mem):TA (d + 1) Qaf [.int .u32 (n:Int)] m=some (I (Xii n),m):=by
 rw [Xbj]
 refine X1x (m1:=withLow m m.next) ?_ (.refl _ _) rfl
 generalize withLow m m.next=m0
 unfold Q6g Qdq Q8r Xii
 simp only [Qhk,X4,Xt]
 have s16:∀ n:Nat,n < 4294967296→bin .shr true true .int (.int .u32 (n:Int)) (.int .u64 16)=some (.int .u32 ((n / 65536:Nat):Int)):=fun n h=>Xka _ _ n 16 h (by omega)
 have s8:∀ n:Nat,n < 4294967296→bin .shr true true .int (.int .u32 (n:Int)) (.int .u64 8)=some (.int .u32 ((n / 256:Nat):Int)):=fun n h=>Xka _ _ n 8 h (by omega)
 have a8:∀ k:Nat,k ≤ 16→bin .add true true .int (I k) (.int .i64 8)=some (I (k + 8:Nat)):=fun k hk=>by
  rw [Q3p]
  have:(k:Int) + 8=((k + 8:Nat):Int):=by omega
  rw [this,wrap64 _ (by omega)]
 by_cases h1:65536 ≤ n
 ·rw [if_pos (by omega),if_pos h1]
  simp only [s16 n h,X4,Qhk,Xt]
  by_cases h2:256 ≤ n / 65536
  ·rw [if_pos (by omega),if_pos h2]
   have e:=a8 16 (by omega)
   have e:bin .add true true .int (.int .i64 16) (.int .i64 8)=some (I (24:Nat)):=e
   simp only [s8 (n / 65536) (by omega),X4,e]
   exact Xgx _ 24 _ (by omega) _
  ·rw [if_neg (by omega),if_neg h2]
   exact Xgx _ 16 _ (by omega) _
 ·rw [if_neg (by omega),if_neg h1]
  by_cases h2:256 ≤ n
  ·rw [if_pos (by omega),if_pos h2]
   have e:=a8 0 (by omega)
   have e:bin .add true true .int (.int .i64 0) (.int .i64 8)=some (I (8:Nat)):=e
   simp only [s8 n h,X4,e]
   exact Xgx _ 8 _ (by omega) _
  ·rw [if_neg (by omega),if_neg h2]
   have:=Xgx ⟨TA d,18446744073709551616⟩ 0 n (by omega) m0
   rw [Nat.zero_add] at this
   exact this
theorem c_lz (n:Nat) (h:n < 4294967296) (d:Nat) (m:Mem):TA (d + 2) Q52 [.int .u32 (n:Int)] m=some (I (lz32 n),m):=by
 rw [X4e]
 refine X1x (m1:=withLow m m.next) ?_ (.refl _ _) rfl
 unfold Q1y
 have hl:=Xsa n h
 have e:bin .sub true true .int (.int .i64 32) (I (Xii n))=some (I (lz32 n)):=by
  rw [Qf0]
  unfold lz32
  have:(32:Int) - (Xii n:Int)=((32 - Xii n:Nat):Int):=by omega
  rw [this,wrap64 _ (by omega)]
 simp only [c_Len32 n h d,X6,e,X4]
theorem c_Bits (a:Nat) (ha:a < 4294967296) (d:Nat) (m:Mem):TA (d + 3) Qgl [.int .u32 (a:Int)] m=some (Xvf (Xo3 a),m):=by
 rw [Xkm]
 refine X1x (m1:=withLow m m.next) ?_ (.refl _ _) (by unfold Xvf; split <;> rfl)
 generalize withLow m m.next=m0
 unfold Qd0
 have hz:lz32 (4294967295 - a) ≤ 32:=Nat.sub_le _ _
 have hp:2 ^ (32 - lz32 (4294967295 - a)) - 1 < 4294967296:=by
  have:2 ^ (32 - lz32 (4294967295 - a)) ≤ 2 ^ 32:=Nat.pow_le_pow_right (by omega) (by omega)
  omega
 simp only [Xle a ha,X4,c_lz (4294967295 - a) (by omega) d,X6,c_behind _ hz (d + 1),Xle _ hp,Q4z,Xt]
 unfold Xo3
 by_cases h:4294967295 - (2 ^ (32 - lz32 (4294967295 - a)) - 1)=a
 ·rw [if_neg (by omega),if_pos h]; rfl
 ·rw [if_pos (by omega),if_neg h]; rfl
end Go.Ab.Sh

set_option maxRecDepth 100000
namespace Go.Ab.Sh
open Go Go.Ab Go.Lib
noncomputable def X3t (c:Cx) (cu:Cu) (wild:Bool):Nat × Cu:=
 match Xo3 (if wild=true then 4294967295 - (X1o c cu).1 else (X1o c cu).1) with | some n=>(n,(X1o c cu).2) | none=>(0,badC c (X1o c cu).2 10)
noncomputable def netC (c:Cx) (cu:Cu) (a:Nat) (b:Int):Cu:=if chk a b=0 then cu else badC c cu 10
noncomputable def geR (c:Cx) (cu:Cu) (b:Nat):(Int × Int) × Cu:=if (isC c cu [103,101]).1=true then (((Xf c (isC c cu [103,101]).2 b 32).1,32),(Xf c (isC c cu [103,101]).2 b 32).2) else (((b:Int),(b:Int)),(isC c cu [103,101]).2)
noncomputable def leR (c:Cx) (cu:Cu) (g l:Int):Int × Cu:=if (isC c cu [108,101]).1=true then Xf c (isC c cu [108,101]).2 g 32 else (l,(isC c cu [108,101]).2)
noncomputable def pfR (c:Cx) (cu:Cu):(Nat × Nat × Nat) × Cu:=(Xjn (Xk c cu).1,if (Xjn (Xk c cu).1).2.2=0 then (Xk c cu).2 else if (Xjn (Xk c cu).1).2.2=10 then badC c (Xk c cu).2 10 else badC c (Xk c cu).2 130)
noncomputable def X54 (c:Cx) (cu:Cu):(Bool × Nat × Nat × Int × Int) × Cu:=
 let o:=oneC c cu [[112,101,114,109,105,116],[100,101,110,121]]
 let q:=pfR c o.2
 let a:=geR c q.2 q.1.2.1
 let k:=leR c a.2 a.1.1 a.1.2
 ((decide (o.1=0),q.1.1,q.1.2.1,a.1.1,k.1),k.2)
noncomputable def Xbc (c:Cx) (cu:Cu):(Nat × Nat) × Cu:=
 let x:=isC c cu [97,110,121]
 let y:=isC c x.2 [104,111,115,116]
 let a:=X1o c y.2
 let k:=X3t c a.2 true
 if x.1=true then ((0,0),x.2) else if y.1=true then ((a.1,32),a.2) else ((a.1,k.1),netC c k.2 a.1 k.1)
noncomputable def X3e (c:Cx) (cu:Cu) (proto:Int):(Int × Int) × Cu:=
 let x:=isC c cu [101,113]
 let n:=Xf c x.2 0 65535
 let y:=isC c x.2 [114,97,110,103,101]
 let a:=Xf c y.2 0 65535
 let b:=Xf c a.2 a.1 65535
 if proto ≠ 6∧proto ≠ 17 then ((0,65535),cu) else if x.1=true then ((n.1,n.1),n.2) else if y.1=true then ((a.1,b.1),b.2) else ((0,65535),y.2)
noncomputable def meR (c:Cx) (cu:Cu):Int × Cu:=if (isC c cu [109,101,116,114,105,99]).1=true then Xf c (isC c cu [109,101,116,114,105,99]).2 0 16777216 else (-1,(isC c cu [109,101,116,114,105,99]).2)
noncomputable def tyR (c:Cx) (cu:Cu) (typed:Bool):Int × Cu:=if typed=true then (if (isC c cu [116,121,112,101]).1=true then Xf c (isC c cu [116,121,112,101]).2 1 2 else (2,(isC c cu [116,121,112,101]).2)) else (0,cu)
noncomputable def rmR (c:Cx) (cu:Cu):Str × Cu:=if (isC c cu [114,111,117,116,101,45,109,97,112]).1=true then X1i c (isC c cu [114,111,117,116,101,45,109,97,112]).2 else ([],(isC c cu [114,111,117,116,101,45,109,97,112]).2)
noncomputable def frR (i from':Nat):Nat:=if i=0 then 1 else if i=1 then 2 else from'
noncomputable def X2r (c:Cx) (cu:Cu) (third:Str) (from':Nat) (typed:Bool):(Nat × Int × Int × Str) × Cu:=
 let o:=oneC c cu [[99,111,110,110,101,99,116,101,100],[115,116,97,116,105,99],third]
 let a:=meR c o.2
 let b:=tyR c a.2 typed
 let r:=rmR c b.2
 ((frR o.1 from',a.1,b.1,r.1),r.2)
end Go.Ab.Sh

set_option maxRecDepth 100000
namespace Go.Ab.Sh
open Go Go.Ab Go.Lib
noncomputable def bOf (X:NX) (k:Key) (o:Nat):Bool:=match vOf X k o with | .bool b=>b | _=>false
noncomputable def strOf:Value→Str | .string b=>b.data.toList | _=>[]
noncomputable def setOf (X:NX):List Str:=match X [2] with | some (.m es _)=>es.map fun e=>strOf e.1 | _=>[]
noncomputable def X1z (s:PSt) (ws:List Str):PSt:={ s with X:=(stF s.X [0] 15 [.bool (bOf s.X [0] 15 || decide (X2i [32] ws ∈ setOf s.X))]).set [2] (some (setO (insS (setOf s.X) (X2i [32] ws)))) }
noncomputable def Xz (s:PSt) (ws:List Str):PSt:=X1z s ([[105,110],s.inn,[46]] ++ ws)
noncomputable def Xaw (s:PSt) (b:Nat) (ws:List Str):PSt:={ X1z s ws with blk:=b,inn:=X2i [32] ws }
end Go.Ab.Sh

set_option maxRecDepth 100000
namespace Go.Ab.Sh
open Go Go.Ab Go.Lib
variable {c:Cx} {m0 m:Mem} {φ0 φ:Phi} {s0 s s':PSt} {cap:Nat} {ts:List Tmp} {x:Option Rs} {Q:Value→Nat→Phi→PSt→Prop} {v:Value} {cu:Cu}
noncomputable def StC (c:Cx) (cap:Nat) (m:Mem) (φ:Phi) (s:PSt) (x:Option Rs) (v:Value) (s':PSt):Prop:=
 ∃ m',x=some (v,m')∧PS c cap m' φ s'∧Wk m φ (toX c s) m' φ (toX c s')
abbrev Q_s (cap:Nat) (φ:Phi) (v:Value) (s':PSt):Value→Nat→Phi→PSt→Prop:=fun v' cap1 φ1 s1=>v'=v∧cap1=cap∧φ1=φ∧s1=s'
theorem StC.ofRes (h:Res c m φ s x (Q_s cap φ v s')):StC c cap m φ s x v s':=by
 obtain ⟨v',m1,cap1,φ1,s1,a1,a2,a3,rfl,rfl,rfl,rfl⟩:=h
 exact ⟨m1,a1,a2,a3⟩
theorem W.cs (h:W c m0 φ0 s0 cap m φ s ts) {y:Option Rs} {w:Value} (law:StC c cap m φ s y w s') {k:Value→Mem→Option Rs} (g:∀ m1,W c m0 φ0 s0 cap m1 φ s' ts→Res c m0 φ0 s0 (k w m1) Q):Res c m0 φ0 s0 (bp y k) Q:=by
 obtain ⟨m1,a1,a2,a3⟩:=law
 rw [a1,X6]
 exact g m1 (h.go a2 a3)
theorem W.rets (h:W c m0 φ s0 cap m φ s' ts):Res c m0 φ s0 (some (v,m)) (Q_s cap φ v s'):=h.ret ⟨rfl,rfl,rfl,rfl⟩
theorem W.str (h:W c m0 φ0 s0 cap m φ s ts) {l:List Cl} {o n:Nat} {x:Value} (hk:s.X [0]=some (.c l)) (hn:x.cells.size=n) (h1:x.cells.toList.all one=true) (ho:o + n ≤ 18) (h12:o + n ≤ 12∨15 ≤ o)
  (hty:∀ i y,x.cells.toList[i]?=some y→okc (fdAt 0 (o + i)) (.v y)) {K:Mem→Option Rs}
  (g:∀ m1,W c m0 φ0 s0 cap m1 φ { s with X:=stF s.X [0] o x.cells.toList } ts→Res c m0 φ0 s0 (K m1) Q) :
  Res c m0 φ0 s0 (bp (unt (X8 n (pt c.P o 0) x m)) fun _ m=>K m) Q:=by
 have e:pt c.P o 0=pt (φ [0]).b o (φ [0]).ver:=by rw [h.ps.pP]
 obtain ⟨l2,a,b⟩:=h.ps.wt.root
 rw [hk] at a
 cases a
 rw [e]
 exact h.stv hk rfl hn h1 (by omega) (fun _=>h12) hty g
theorem PS.root (h:PS c cap m φ s):∃ l,s.X [0]=some (.c l)∧l.length=18∧∀ o y,(o < 12∨15 ≤ o)→l[o]?=some (.v y)→X7 false 1 (pt c.P o 0) m=some y:=by
 obtain ⟨l,a,b⟩:=h.wt.root
 refine ⟨l,a,b,fun o y ho hy=>?_⟩
 have:=h.ldv (by decide) a (fun _=>ho) hy
 rwa [h.pP] at this
theorem PS.mid (h:PS c cap m φ s) (i:Nat) (y:Value) (hi:(midV c s)[i]?=some y):X7 false 1 (pt c.P (12 + i) 0) m=some y:=by
 obtain ⟨l,a,b⟩:=h.wt.root
 have hi3:i < 3:=(List.getElem?_eq_some_iff.mp hi).1
 have e1:(l.take 12).length=12:=by simp; omega
 have:=h.nr.load (o:=12 + i) (c:=.v y) (X7g (c:=c) a) (by
  rw [get3,e1,if_neg (by omega),List.length_map,if_pos (by show 12 + i < 12 + 3; omega),List.getElem?_map,Nat.add_sub_cancel_left,hi]
  rfl)
 rwa [h.pP] at this
theorem Xm6:∀ (w:List Str) (i:Nat),(ents w i).map (fun e=>strOf e.1)=w
 | [],_=>rfl
 | a :: l,i=>by
  show strOf (sv a) :: (ents l (i + 1)).map _=_
  rw [Xm6 l (i + 1)]
  rfl
theorem Xsk {X:NX} {w:List Str} (h:X [2]=some (setO w)):setOf X=w:=by
 unfold setOf
 rw [h]
 exact Xm6 w 0
theorem Xs8 (o:Option NO) (w:WT s.X):(toX c s).set [2] o=toX c { s with X:=s.X.set [2] o }:=by
 obtain ⟨l,a,b⟩:=w.root
 have a2:s.X.set [2] o [0]=some (.c l):=by rw [NX.set_ne _ _ (by decide)]; exact a
 have e:toX c { s with X:=s.X.set [2] o }=(stF (s.X.set [2] o) [0] 12 (midV c s)).set [1] (some (.c (cc c s.cu))):=rfl
 rw [e,X1c a2]
 unfold toX
 rw [X1c a,X26 _ _ _ (show ([1]:Key) ≠ [2] by decide),X26 _ _ _ (show ([0]:Key) ≠ [2] by decide)]
theorem Xxo {w:List Str} (h:s.X [2]=some (setO w)):toX c s [2]=some (setO w):=by rw [X6a (by decide) (by decide)]; exact h
theorem WT.set2 {X:NX} (h:WT X) (w:List Str):WT (X.set [2] (some (setO w))) where
 root:=by rw [NX.set_ne _ _ (by decide)]; exact h.root
 set:=⟨w,NX.set_eq _ _ _⟩
 no1:=by rw [NX.set_ne _ _ (by decide)]; exact h.no1
 ty:=fun k l hk=>by
  by_cases e:k=[2]
  ·rw [e,NX.set_eq] at hk
   cases hk
  ·rw [NX.set_ne _ _ e] at hk
   exact h.ty k l hk
theorem Xu7 {X:NX} {k:Key} {l:List Cl} (h:X k=some (.c l)) {o:Nat} {b:Bool} (ho:l[o]?=some (.v (.bool b))):bOf X k o=b:=by
 unfold bOf vOf
 rw [Xyh h ho]
theorem Xab (h:PS c cap m φ s) {v:Value} {ws:List Str} (hv:SLx c m φ s v ws) (hn:ws.length ≤ 140737488355328) (hl:(X2i [32] ws).length ≤ 140737488355328) (d:Nat):StC c cap m φ s (TA (d + 1) Q2h [pt c.P 0 0,v] m) (.tuple ⟨[]⟩) (X1z s ws):=by
 rw [X6m]
 refine StC.ofRes (h.call1 ?_)
 have k:=W.start (h.wl' m.next)
 have kv:SLx c (withLow m m.next) φ s v ws:=hv
 generalize withLow m m.next=m0 at k kv
 unfold Q3k
 have r:TA d Q34 [v,.string ⟨#[32]⟩] m0=some (sv (X2i [32] ws),m0):=c_Join v ws [32] m0 kv.sl hn hl d
 simp only [r,X6]
 unfold Q8y
 obtain ⟨l,hk,hl18,ld⟩:=k.ps.root
 obtain ⟨w,hw⟩:=k.ps.wt.set
 obtain ⟨d15,q1,q2⟩:=k.ps.wt.get hk (r:=0) rfl (o:=15) (by omega)
 obtain ⟨b,rfl⟩:∃ b,d15=.v (.bool b):=by
  cases d15 with
  | v z=>obtain ⟨b,rfl⟩:=q2; exact ⟨b,rfl⟩
  | s n sz=>cases q2
 have l15:=ld 15 _ (.inr (by omega)) q1
 have hb:=Xu7 hk q1
 have l14:X7 false 1 (pt c.P 14 0) m0=some (mapV c.O):=k.ps.mid 2 _ rfl
 have lk:=k.ps.nr.look (k:=[2]) (Xxo hw) (X2i [32] ws)
 rw [k.ps.pO] at lk
 simp only [Xj,Xe,X4,Nat.zero_add,l15,l14,lk]
 have fin:∀ m1,W c m0 φ s cap m1 φ { s with X:=stF s.X [0] 15 [.bool (b || decide (X2i [32] ws ∈ w))] } []→Res c m0 φ s (Q45 ⟨TA d,18446744073709551616⟩ (pt c.P 0 0) (sv (X2i [32] ws)) m1) (Q_s cap φ (.tuple ⟨[]⟩) (X1z s ws)):=fun m1 k1=>by
  unfold Q45
  have l14:X7 false 1 (pt c.P 14 0) m1=some (mapV c.O):=k1.ps.mid 2 _ rfl
  have hw1:(stF s.X [0] 15 [.bool (b || decide (X2i [32] ws ∈ w))]) [2]=some (setO w):=by
   rw [X1c hk,NX.set_ne _ _ (by decide)]; exact hw
  obtain ⟨m2,u1,u2,u3⟩:=k1.ps.nr.insert (k:=[2]) (Xxo (s:={ s with X:=stF s.X [0] 15 [.bool (b || decide (X2i [32] ws ∈ w))] }) hw1) (X2i [32] ws)
  rw [k1.ps.pO] at u1
  rw [Xs8 _ k1.ps.wt] at u2 u3
  simp only [Xj,Xe,X4,Nat.zero_add,l14,u1,Xp]
  have e:X1z s ws={ s with X:=(stF s.X [0] 15 [.bool (b || decide (X2i [32] ws ∈ w))]).set [2] (some (setO (insS w (X2i [32] ws)))) }:=by
   unfold X1z
   rw [Xsk hw,hb]
  rw [e]
  exact (k1.go (k1.ps.step u2 u3 ⟨rfl,rfl,rfl⟩ ⟨k1.ps.ok.le,k1.ps.ok.ee,k1.ps.wt.set2 _,k1.ps.ok.il,k1.ps.ok.ge.to fun k' o' hk'=>Nat.le_of_eq (Xk5 _ _ (by rcases hk' with e | e <;> rw [e] <;> decide)).symm⟩) u3).rets
 cases b with
 | true =>
  rw [Xc]
  refine k.str (o:=15) (n:=1) (x:=.bool true) hk rfl rfl (by omega) (.inr (by omega)) (fun i y hy=>?_) fun m1 k1=>fin m1 k1
  match i,hy with
  | 0,hy=>cases hy; exact ⟨true,rfl⟩
 | false =>
  rw [Xa]
  refine k.str (o:=15) (n:=1) (x:=.bool (decide (X2i [32] ws ∈ w))) hk rfl rfl (by omega) (.inr (by omega)) (fun i y hy=>?_) fun m1 k1=>fin m1 (by rw [Bool.false_or]; exact k1)
  match i,hy with
  | 0,hy=>cases hy; exact ⟨_,rfl⟩
theorem Xx6 {m:Mem} {v:Value} {ws:List Str} (h:SL m v ws):X1t 1 ws.length v m=some (ws.map sv):=by
 obtain ⟨b,o,r,cs,fro,ro,ty,rfl,h2,h3,h4,h5⟩:=h
 have e:(cs.drop o).take ws.length=ws.map sv:=by
  apply List.ext_getElem?
  intro i
  rw [List.getElem?_take,List.getElem?_map]
  by_cases hi:i < ws.length
  ·rw [if_pos hi,List.getElem?_drop,List.getElem?_eq_getElem hi,h5 i _ (List.getElem?_eq_getElem hi)]; rfl
  ·rw [if_neg hi,List.getElem?_eq_none (by omega)]; rfl
 simp [X1t,Xw,X10,h3,h4,e]
theorem Xik {m:Mem} {e b:Nat} {ws1:List Value} {ty:Option Nat} {v:Value} {ws:List Str} (hb:m.get b=some (.cells ws1 0 0 false ty)) (h1:ws1.all one=true) (h:SL m v ws) (hn:ws ≠ []) (hl:ws1.length + ws.length ≤ 65536) :
  apS e 1 16 (.slice (some ⟨b,0,some 1⟩) ws1.length 1) v m=some (.slice (some ⟨m.next,0,some 1⟩) (ws1.length + ws.length) 0,m.push (.cells (ws1 ++ ws.map sv) 0 0 false (some (2 * e)))):=by
 have hs:=Xx6 h
 obtain ⟨b2,o,r,cs,fro,ro,ty2,rfl,h2,h3,h4,h5⟩:=h
 refine Xms ?_
 have hw:(ws.map sv).all one=true:=by
  rw [List.all_eq_true]
  intro y hy
  obtain ⟨w,_,rfl⟩:=List.mem_map.mp hy
  rfl
 have hn0:ws.length ≠ 0:=fun e=>hn (List.eq_nil_of_length_eq_zero e)
 have hf:fits (ws1.length + ws.length) 16=true:=by
  unfold fits
  rw [Nat.ble_eq.mpr (by omega),Nat.ble_eq.mpr (by omega)]
  rfl
 unfold X3o
 have e1:(Nat.beq ws.length 0 || Nat.beq (1 % 2) 1)=true:=by simp
 simp only [X2s,e1]
 unfold X24
 have e5:Nat.ble (0 + ws1.length * 1) ws1.length=true:=Nat.ble_eq.mpr (by omega)
 simp only [X2s,hs,hw,Bool.true_and,Bool.not_true,Bool.false_eq_true,if_false,hb,e5,hf,beq_self_eq_true,Bool.and_true,hn0,if_true]
 simp
theorem W.slx' (h:W c m0 φ0 s0 cap m φ s ts) {b n r:Nat} {ws:List Str} (hb:(b,0,ws.map sv) ∈ ts) (hn:n=ws.length) (hr:r < 2):SLx c m φ s (.slice (some ⟨b,0,some 1⟩) n r) ws:=by
 subst hn
 obtain ⟨ty,q⟩:=h.at' _ hb
 refine ⟨b,0,r,ws.map sv,0,false,ty,rfl,(h.lt _ hb).2,h.nx _ hb,by rw [show r / 2=0 by omega]; exact q,by simp,fun i w hw=>?_⟩
 rw [Nat.zero_add,List.getElem?_map,hw]
 rfl
theorem Xnd (sep a:Str) (l:List Str):X2i sep (a :: l)=if l=[] then a else a ++ sep ++ X2i sep l:=by
 cases l with
 | nil=>simp [X2i,List.intercalate]
 | cons b l=>simp [X2i,List.intercalate]
theorem Xcr (B:Nat):∀ ws:List Str,(∀ w ∈ ws,w.length ≤ B)→(X2i [32] ws).length ≤ ws.length * (B + 1)
 | [],_=>Nat.zero_le _
 | a :: l,h=>by
  rw [Xnd]
  have ha:=h a (List.mem_cons_self ..)
  have:=Xcr B l fun w hw=>h w (List.mem_cons_of_mem _ hw)
  have e:(a :: l).length * (B + 1)=l.length * (B + 1) + (B + 1):=by rw [List.length_cons,Nat.add_mul,Nat.one_mul]
  rw [e]
  split
  ·omega
  ·simp only [List.length_append,List.length_cons,List.length_nil]; omega
theorem X55 (h:PS c cap m φ s) {v:Value} {ws:List Str} (hv:SLx c m φ s v ws) (h0:ws ≠ []) (hn:ws.length ≤ 16) (hl:∀ w ∈ ws,w.length ≤ 65536) (d:Nat):StC c cap m φ s (TA (d + 2) Q6 [pt c.P 0 0,v] m) (.tuple ⟨[]⟩) (Xz s ws):=by
 rw [X75]
 refine StC.ofRes (h.call1 ?_)
 have k:=W.start (h.wl' m.next)
 have kv:SLx c (withLow m m.next) φ s v ws:=hv
 generalize withLow m m.next=m0 at k kv
 unfold Q3l
 have l13:X7 false 1 (pt c.P 13 0) m0=some (sv s.inn):=k.ps.mid 1 _ rfl
 simp only [Xj,Xe,X4,Nat.zero_add,l13]
 refine k.bsl (cs:=[sv [105,110],sv s.inn,sv [46]]) rfl (by decide) fun b m1 k1=>?_
 have kv1:=kv.wk k1.wk
 obtain ⟨ty,hb⟩:=k1.at' _ (List.mem_cons_self ..)
 have e:=Xik (e:=Q1) (ws1:=[sv [105,110],sv s.inn,sv [46]]) hb rfl kv1.sl h0 (by simp; omega)
 have e:apS Q1 1 16 (.slice (some ⟨b,0,some 1⟩) 3 1) v m1=_:=e
 rw [e,X6]
 have k2:=k1.push ([sv [105,110],sv s.inn,sv [46]] ++ ws.map sv) (some (2 * Q1))
 have hlen:=Xcr SB ([[105,110],s.inn,[46]] ++ ws) (fun w hw=>by
  have:=k1.ps.ok.il
  simp only [List.cons_append,List.nil_append,List.mem_cons] at hw
  rcases hw with rfl | rfl | rfl | hw
  ·decide
  ·exact this
  ·decide
  ·exact Nat.le_trans (hl w hw) (by decide))
 refine k2.cs (Xab k2.ps (ws:=[[105,110],s.inn,[46]] ++ ws) (k2.slx' (List.mem_cons_self ..) (by simp; omega) (by omega)) (by simp; omega) (Nat.le_trans hlen (by
  have:([[105,110],s.inn,[46]] ++ ws).length ≤ 19:=by simp; omega
  exact Nat.le_trans (Nat.mul_le_mul_right _ this) (by decide))) d) fun m3 k3=>?_
 exact k3.rets
theorem W.midE (h:W c m0 φ0 s0 cap m φ s ts) (i:Nat) (y:Value) (hi:i < 3) (hy:y.cells.toList=[y]) (h1:one y=true) {s':PSt} (hm:midV c s'=(midV c s).set i y) (hX:s'.X=s.X) (hcu:s'.cu=s.cu) (hil:s'.inn.length ≤ SB):∃ m1,X8 1 (pt c.P (12 + i) 0) y m=some m1∧W c m0 φ0 s0 cap m1 φ s' ts:=by
 obtain ⟨l,a,b⟩:=h.ps.wt.root
 have ml:(midV c s).length=3:=rfl
 have hroot:=X7g (c:=c) a
 have e0:(l.take 12).length=12:=by simp; omega
 have hs:y.cells.size=1:=by rw [← Array.length_toList,hy]; rfl
 have hL:(l.take 12 ++ (midV c s).map Cl.v ++ l.drop 15).take (12 + i) ++ y.cells.toList.map Cl.v ++ (l.take 12 ++ (midV c s).map Cl.v ++ l.drop 15).drop (12 + i + 1)=l.take 12 ++ (midV c s').map Cl.v ++ l.drop 15:=by
  rw [hy,hm]
  apply List.ext_getElem?
  intro j
  have e15:∀ z:List Cl,z.length=3→(l.take 12 ++ z ++ l.drop 15)[j]?=if 12 ≤ j∧j < 15 then z[j - 12]? else l[j]?:=fun z hz=>by
   have:=get_put (l:=l) (z:=z) (o:=12) (by omega) j
   rw [hz] at this
   exact this
  have g1:=get_put (l:=l.take 12 ++ (midV c s).map Cl.v ++ l.drop 15) (z:=[Cl.v y]) (o:=12 + i) (by simp [ml]; omega) j
  refine Eq.trans g1 ?_
  rw [e15 _ (by simp [ml]),e15 _ (by simp [ml])]
  show (if 12 + i ≤ j∧j < 12 + i + 1 then [Cl.v y][j - (12 + i)]? else _)=_
  by_cases p:12 + i ≤ j∧j < 12 + i + 1
  ·have:j=12 + i:=by omega
   subst this
   rw [if_pos p,if_pos (by omega),List.getElem?_map,Nat.add_sub_cancel_left,List.getElem?_set,if_pos rfl,if_pos (by rw [ml]; exact hi),Nat.sub_self]
   rfl
  ·rw [if_neg p]
   by_cases q:12 ≤ j∧j < 15
   ·rw [if_pos q,if_pos q,List.getElem?_map,List.getElem?_map,List.getElem?_set,if_neg (by omega)]
   ·rw [if_neg q,if_neg q]
 obtain ⟨m1,u1,u2,u3⟩:=h.ps.nr.put' (k:=[0]) (12 + i) 1 y _ hroot hs (by rw [hy]; simp [h1]) (by simp [ml]; omega) (fun j hj=>by
  have:j=0:=by omega
  subst this
  have hii:i < (midV c s).length:=hi
  refine ⟨(midV c s)[i],?_⟩
  rw [Nat.add_zero,get3,e0,if_neg (by omega),List.length_map,ml,if_pos (by omega),List.getElem?_map,Nat.add_sub_cancel_left,List.getElem?_eq_getElem hii]
  rfl) hL
 rw [h.ps.pP] at u1
 have e:(toX c s).set [0] (some (.c (l.take 12 ++ (midV c s').map Cl.v ++ l.drop 15)))=toX c s':=by
  unfold toX
  rw [hX,hcu,X1c a,X1c a,X26 _ _ _ (show ([1]:Key) ≠ [0] by decide),NX.set_set]
  rfl
 rw [e] at u2 u3
 have u1:X8 1 (pt c.P (12 + i) 0) y m=some m1:=u1
 exact ⟨m1,u1,h.go (h.ps.step u2 u3 ⟨rfl,rfl,rfl⟩ ⟨by rw [hcu]; exact h.ps.ok.le,by rw [hcu]; exact h.ps.ok.ee,by rw [hX]; exact h.ps.ok.wt,hil,by rw [hX]; exact h.ps.ok.ge⟩) u3⟩
theorem W.mid (h:W c m0 φ0 s0 cap m φ s ts) (i:Nat) (y:Value) (hi:i < 3) (hy:y.cells.toList=[y]) (h1:one y=true) {s':PSt} (hm:midV c s'=(midV c s).set i y) (hX:s'.X=s.X) (hcu:s'.cu=s.cu) (hil:s'.inn.length ≤ SB) {K:Mem→Option Rs}
  (g:∀ m1,W c m0 φ0 s0 cap m1 φ s' ts→Res c m0 φ0 s0 (K m1) Q):Res c m0 φ0 s0 (bp (unt (X8 1 (pt c.P (12 + i) 0) y m)) fun _ m=>K m) Q:=by
 obtain ⟨m1,u1,k1⟩:=h.midE i y hi hy h1 hm hX hcu hil
 rw [u1,Xp]
 exact g m1 k1
theorem Xea (h:PS c cap m φ s) {v:Value} {ws:List Str} (hv:SLx c m φ s v ws) (hn:ws.length ≤ 3) (hl:∀ w ∈ ws,w.length ≤ 65536) (b:Nat) (hb:b ≠ 0) (d:Nat):StC c cap m φ s (TA (d + 2) Q1u [pt c.P 0 0,.func (.func b) ⟨[pt c.P 0 0]⟩ ⟨[]⟩,v] m) (.tuple ⟨[]⟩) (Xaw s b ws):=by
 have hlen:=Xcr 65536 ws hl
 have hlen2:(X2i [32] ws).length ≤ SB:=Nat.le_trans hlen (Nat.le_trans (Nat.mul_le_mul_right _ hn) (by decide))
 rw [X92]
 refine StC.ofRes (h.call1 ?_)
 have k:=W.start (h.wl' m.next)
 have kv:SLx c (withLow m m.next) φ s v ws:=hv
 generalize withLow m m.next=m0 at k kv
 unfold Q4h
 refine k.cs (Xab k.ps kv (by omega) (Nat.le_trans hlen2 (by decide)) d) fun m1 k1=>?_
 have kv1:=kv.wk k1.wk
 have r:TA (d + 1) Q34 [v,.string ⟨#[32]⟩] m1=some (sv (X2i [32] ws),m1):=c_Join v ws [32] m1 kv1.sl (by omega) (Nat.le_trans hlen2 (by decide)) (d + 1)
 simp only [r,X6]
 simp only [Xj,Xe,X4,Nat.zero_add]
 refine k1.mid 0 _ (by decide) rfl rfl (s':={ X1z s ws with blk:=b }) (by show [blkV c b,_,_]=[_,_,_]; unfold blkV; rw [if_neg hb]) rfl rfl k1.ps.ok.il fun m2 k2=>?_
 refine k2.mid 1 _ (by decide) rfl rfl (s':={ X1z s ws with blk:=b,inn:=X2i [32] ws }) rfl rfl rfl hlen2 fun m3 k3=>?_
 exact k3.rets
end Go.Ab.Sh

set_option maxRecDepth 100000
namespace Go.Ab.Sh
open Go Go.Ab Go.Lib
noncomputable def PSt.at (s:PSt) (cu:Cu):PSt:={ s with cu:=cu }
noncomputable def badS (c:Cx) (s:PSt) (e:Int):PSt:=s.at (badC c s.cu e)
noncomputable abbrev u32 (n:Nat):Value:=.int .u32 (n:Int)
noncomputable def Xb4 (p:Nat→Bool) (sz f:Nat):Nat→Nat→Option Nat
 | 0,_=>none
 | n + 1,i=>if p (i * sz + f)=true then some i else Xb4 p sz f n (i + 1)
noncomputable def X77 (X:NX) (k:Key) (o sz f:Nat) (v:Str):Option Nat:=Xb4 (fun j=>decide (sOf X (o :: k) j=v)) sz f (nOf X k o) 0
noncomputable def Xje (X:NX) (k:Key) (o sz f:Nat) (v:Int):Option Nat:=Xb4 (fun j=>decide (iOf X (o :: k) j=v)) sz f (nOf X k o) 0
noncomputable def rowOf (s:PSt) (o sz:Nat) (n:Str) (cs:List Cl):Nat × PSt:=match X77 s.X [0] o sz 0 n with | some i=>(i,s) | none=>(nOf s.X [0] o,{ s with X:=apF s.X [0] o cs })
noncomputable abbrev X76:Nat:=Q63
noncomputable abbrev Xd4:Nat:=Q6r
noncomputable abbrev bAsk:Nat:=Q5a
noncomputable abbrev Xek:Nat:=Q6s
noncomputable abbrev bBgp:Nat:=Q74
noncomputable def X3x (s:Str):Option Nat:=match parseUintB 16 (cutO 58 s).1,parseUintB 16 (cutO 58 s).2.1 with
 | .ok a,.ok b=>if decDigits a ++ [58] ++ decDigits b=s then some (a * 65536 + b) else none
 | _,_=>none
noncomputable def PSt.app (s:PSt) (k:Key) (o:Nat) (cs:List Cl):PSt:={ s with X:=apF s.X k o cs }
noncomputable def PSt.sto (s:PSt) (k:Key) (o:Nat) (xs:List Value):PSt:={ s with X:=stF s.X k o xs }
noncomputable def PSt.adp (s:PSt) (k:Key) (o:Nat) (vs:List Value):PSt:={ s with X:=adF s.X k o vs }
noncomputable def PSt.adopt (s:PSt) (k:Key) (o:Nat) (cs:List Cl) (vs:List Value):PSt:=(s.app k o (cs ++ [.s 0 1])).adp (o :: k) (nOf s.X k o * (cs.length + 1) + cs.length) vs
noncomputable def Xbk (s:PSt) (name:Str) (act:Nat) (seq:Int):PSt:=
 let r:=rowOf s 9 3 name [.v (sv name),.s 0 15,.v (.bool false)]
 let s1:=r.2.sto [0] 17 [I r.1]
 let s2:=s1.app [9,0] (r.1 * 3 + 1) [.v (.int .i64 seq),.v (.int .u8 (act:Int)),.v (sv []),.v (sv []),.v (.int .i64 (-1)),.v (.int .i64 (-1)),.v (.int .i64 (-1)),.v (.int .i64 (-1)),.v (.int .i64 (-1)),.v (.int .i64 (-1)),.s 0 1,.v (.bool false),.s 0 1,.v (u32 0),.v (.int .i64 0)]
 Xaw s2 bAsk [[114,111,117,116,101,45,109,97,112],name,X2a seq.toNat]
noncomputable def X6x (c:Cx) (s:PSt):PSt:=
 let o:=oneC c s.cu [[111,115,112,102],[98,103,112]]
 if o.1=0 then
  let v:=vrfC c o.2
  (Xaw (s.at v.2) Xek [[114,111,117,116,101,114],[111,115,112,102],v.1]).app [0] 10 [.v (sv v.1),.v (u32 0),.s 0 4]
 else
  let n:=Xf c o.2 1 4294967295
  let v:=vrfC c n.2
  (Xaw (s.at v.2) bBgp [[114,111,117,116,101,114],[98,103,112],v.1]).app [0] 11 [.v (sv v.1),.v (.int .u32 n.1),.v (u32 0),.s 0 2,.s 0 6,.s 0 4]
noncomputable def Xch (c:Cx) (s:PSt):PSt:=
 let v:=vrfC c s.cu
 let a:=X1o c v.2
 let k:=X3t c a.2 false
 let d:=isC c (netC c k.2 a.1 k.1) [100,105,115,99,97,114,100]
 let h:Nat × Cu:=if d.1=true then (0,d.2) else hopC c d.2
 let x:=isC c h.2 [100,105,115,116,97,110,99,101]
 let n:=Xf c x.2 1 255
 let e:Int × Cu:=if x.1=true then n else (1,x.2)
 let y:=isC c e.2 [116,97,103]
 let g:=Xf c y.2 0 16777216
 let t:Int × Cu:=if y.1=true then g else (0,y.2)
 (s.at t.2).app [0] 6 [.v (sv v.1),.v (u32 a.1),.v (I k.1),.v (u32 h.1),.v (.bool d.1),.v (.int .i64 e.1),.v (.int .i64 t.1)]
noncomputable def X20 (c:Cx):Nat→Cu→List Nat × Cu
 | 0,cu=>([],cu)
 | f + 1,cu =>
  let w:=Xk c cu
  let n:=X3x w.1
  let cu1:=if n.isSome=true then w.2 else badC c w.2 130
  let r:=X20 c f cu1
  if X2w c cu1=true then (n.getD 0 :: r.1,r.2) else ([n.getD 0],cu1)
noncomputable def ipC (c:Cx) (s0:PSt):PSt:=
 let w:=Xk c s0.cu
 let s:=s0.at w.2
 if w.1=[114,111,117,116,101] then Xch c s
 else if w.1=[102,105,108,116,101,114] then
  let n:=X1i c s.cu
  (Xaw (s.at n.2) Xd4 [[102,105,108,116,101,114],n.1]).app [0] 4 [.v (sv n.1),.s 0 10]
 else if w.1=[112,114,101,102,105,120,45,108,105,115,116] then
  let n:=X1i c s.cu
  let e:=X54 c n.2
  let r:=rowOf (s.at e.2) 7 2 n.1 [.v (sv n.1),.s 0 5]
  r.2.app [7,0] (r.1 * 2 + 1) [.v (.bool e.1.1),.v (u32 e.1.2.1),.v (I e.1.2.2.1),.v (.int .i64 e.1.2.2.2.1),.v (.int .i64 e.1.2.2.2.2)]
 else if w.1=[99,111,109,109,117,110,105,116,121,45,108,105,115,116] then
  let n:=X1i c s.cu
  let o:=oneC c n.2 [[112,101,114,109,105,116],[100,101,110,121]]
  let l:=X20 c (c.ws.length + 1) o.2
  let r:=rowOf (s.at l.2) 8 2 n.1 [.v (sv n.1),.s 0 2]
  r.2.adopt [8,0] (r.1 * 2 + 1) [.v (.bool (decide (o.1=0)))] (l.1.map u32)
 else if w.1=[110,97,116] then
  let o:=oneC c s.cu [[115,111,117,114,99,101],[100,101,115,116,105,110,97,116,105,111,110]]
  let x:=Xgd c o.2 [102,105,108,116,101,114]
  let n:=X1i c x
  let y:=Xgd c n.2 [116,111]
  let a:=X1o c y
  (s.at a.2).app [0] 5 [.v (.bool (decide (o.1=1))),.v (sv n.1),.v (u32 a.1)]
 else badS c s 130
noncomputable def topC (c:Cx) (s0:PSt):PSt:=
 let w:=Xk c s0.cu
 let s:=s0.at w.2
 if w.1=[104,111,115,116,110,97,109,101] then
  let n:=X1i c s.cu
  X1z ((s.at n.2).sto [0] 0 [sv n.1]) [[104,111,115,116,110,97,109,101]]
 else if w.1=[118,114,102] then
  let n:=X1i c s.cu
  (X1z (s.at n.2) [[118,114,102],n.1]).app [0] 2 [.v (sv n.1)]
 else if w.1=[105,110,116,101,114,102,97,99,101] then
  let n:=X1i c s.cu
  (Xaw (s.at n.2) X76 [[105,110,116,101,114,102,97,99,101],n.1]).app [0] 3 [.v (sv n.1),.v (sv []),.v (u32 0),.v (I 0),.v (.bool false),.v (sv []),.v (sv []),.v (.int .u8 0),.v (.int .i64 (-1)),.v (I 10),.v (.bool false)]
 else if w.1=[105,112] then ipC c s
 else if w.1=[114,111,117,116,101,45,109,97,112] then
  let n:=X1i c s.cu
  let o:=oneC c n.2 [[112,101,114,109,105,116],[100,101,110,121],[110,101,120,116]]
  let q:=Xf c o.2 1 65535
  Xbk (s.at q.2) n.1 (if o.1=0 then 1 else if o.1=1 then 0 else 2) q.1
 else if w.1=[114,111,117,116,101,114] then X6x c s
 else badS c s 130
noncomputable def Xce (c:Cx) (s0:PSt):PSt:=
 let w:=Xk c s0.cu
 let s:=s0.at w.2
 let b:=(nOf s.X [0] 3 - 1) * 11
 let k:Key:=[3,0]
 if w.1=[118,114,102] then
  let n:=X1i c s.cu
  Xz ((s.at n.2).sto k (b + 1) [sv n.1]) [w.1]
 else if w.1=[97,100,100,114,101,115,115] then
  let a:=X1o c s.cu
  let m:=X3t c a.2 false
  let s1:=(((s.at a.2).sto k (b + 2) [u32 a.1]).at m.2).sto k (b + 3) [I m.1]
  Xz (if m.1=0 then badS c s1 10 else s1) [w.1]
 else if w.1=[102,105,108,116,101,114] then
  let n:=X1i c s.cu
  let o:=oneC c n.2 [[105,110],[111,117,116]]
  if o.1=0 then Xz ((s.at o.2).sto k (b + 5) [sv n.1]) [w.1,[105,110]] else Xz ((s.at o.2).sto k (b + 6) [sv n.1]) [w.1,[111,117,116]]
 else if w.1=[110,97,116] then
  let o:=oneC c s.cu [[105,110,115,105,100,101],[111,117,116,115,105,100,101]]
  Xz ((s.at o.2).sto k (b + 7) [.int .u8 (o.1 + 1:Nat)]) [w.1]
 else if w.1=[111,115,112,102] then
  let o:=oneC c s.cu [[97,114,101,97],[99,111,115,116],[112,97,115,115,105,118,101]]
  let n:=Xf c o.2 0 16777216
  let q:=Xf c o.2 1 65535
  let s1:=if o.1=0 then (s.at n.2).sto k (b + 8) [.int .i64 n.1] else if o.1=1 then (s.at q.2).sto k (b + 9) [.int .i64 q.1] else (s.at o.2).sto k (b + 10) [.bool true]
  Xz s1 [w.1,(wdC c (1 % c.ws.length)).1]
 else if w.1=[115,104,117,116,100,111,119,110] then Xz (s.sto k (b + 4) [.bool true]) [w.1]
 else badS c s 130
noncomputable def Xiv (c:Cx) (s0:PSt):PSt:=
 let o:=oneC c s0.cu [[112,101,114,109,105,116],[100,101,110,121]]
 let x1:=isC c o.2 [97,110,121]
 let x2:=isC c x1.2 [116,99,112]
 let x3:=isC c x2.2 [117,100,112]
 let x4:=isC c x3.2 [105,99,109,112]
 let n:=Xf c x4.2 0 255
 let p:Int × Cu:=if x1.1=true then (-1,x1.2) else if x2.1=true then (6,x2.2) else if x3.1=true then (17,x3.2) else if x4.1=true then (1,x4.2) else n
 let a:=Xbc c p.2
 let b:=X3e c a.2 p.1
 let d:=Xbc c b.2
 let e:=X3e c d.2 p.1
 (s0.at e.2).app [4,0] ((nOf s0.X [0] 4 - 1) * 2 + 1) [.v (.bool (decide (o.1=0))),.v (.int .i64 p.1),.v (u32 a.1.1),.v (I a.1.2),.v (u32 d.1.1),.v (I d.1.2),.v (.int .u32 b.1.1),.v (.int .u32 b.1.2),.v (.int .u32 e.1.1),.v (.int .u32 e.1.2)]
noncomputable def X2n (c:Cx) (k:Key) (o:Nat):Nat→PSt→PSt
 | 0,s=>s
 | f + 1,s =>
  let n:=Xf c s.cu 1 4294967295
  let s1:=(s.at n.2).app k o [.v (.int .u32 n.1)]
  if X2w c s1.cu=true then X2n c k o f s1 else s1
noncomputable def askK (X:NX):Key:=[(iOf X [0] 17).toNat * 3 + 1,9,0]
noncomputable def askB (X:NX):Nat:=(nOf X [9,0] ((iOf X [0] 17).toNat * 3 + 1) - 1) * 15
noncomputable def setC (c:Cx) (s0:PSt) (k:Key) (b:Nat):Str × PSt:=
 let w:=Xk c s0.cu
 let s:=s0.at w.2
 let n:=Xf c s.cu 0 16777216
 (w.1,if w.1=[109,101,116,114,105,99] then (s.at n.2).sto k (b + 7) [.int .i64 n.1]
 else if w.1=[112,114,101,102,101,114,101,110,99,101] then (s.at n.2).sto k (b + 8) [.int .i64 n.1]
 else if w.1=[116,97,103] then (s.at n.2).sto k (b + 9) [.int .i64 n.1]
 else if w.1=[99,111,109,109,117,110,105,116,121] then
  let x:=isC c s.cu [97,100,100]
  let l:=X20 c (c.ws.length + 1) x.2
  (((s.at x.2).sto k (b + 11) [.bool x.1]).at l.2).adp k (b + 10) (l.1.map u32)
 else if w.1=[112,114,101,112,101,110,100] then X2n c k (b + 12) (c.ws.length + 1) s
 else if w.1=[110,101,120,116,45,104,111,112] then
  let a:=hopC c s.cu
  (s.at a.2).sto k (b + 13) [u32 a.1]
 else badS c s 130)
noncomputable def askC (c:Cx) (s0:PSt):PSt:=
 let k:=askK s0.X
 let b:=askB s0.X
 let w:=Xk c s0.cu
 let s:=s0.at w.2
 if w.1=[109,97,116,99,104] then
  let q:=Xk c s.cu
  let t:=s.at q.2
  let n:=X1i c t.cu
  let g:=Xf c t.cu 0 16777216
  let h:=Xf c t.cu 1 4294967295
  let r:=if q.1=[112,114,101,102,105,120,45,108,105,115,116] then (t.at n.2).sto k (b + 2) [sv n.1] else if q.1=[99,111,109,109,117,110,105,116,121,45,108,105,115,116] then (t.at n.2).sto k (b + 3) [sv n.1] else if q.1=[116,97,103] then (t.at g.2).sto k (b + 4) [.int .i64 g.1] else if q.1=[109,101,116,114,105,99] then (t.at g.2).sto k (b + 5) [.int .i64 g.1] else if q.1=[97,115] then (t.at h.2).sto k (b + 6) [.int .i64 h.1] else badS c t 130
  Xz r [w.1,q.1]
 else if w.1=[115,101,116] then
  let r:=setC c s k b
  Xz r.2 [w.1,r.1]
 else if w.1=[99,111,110,116,105,110,117,101] then
  let n:=Xf c s.cu (IntKind.i64.wrap (iOf s.X k b + 1)) 65535
  Xz ((s.at n.2).sto k (b + 14) [.int .i64 n.1]) [w.1]
 else badS c s 130
noncomputable def rdC (x:Nat × Int × Int × Str):List Cl:=[.v (.int .u8 (x.1:Int)),.v (.int .i64 x.2.1),.v (.int .u8 x.2.2.1),.v (sv x.2.2.2)]
noncomputable def Xi3 (c:Cx) (s0:PSt):PSt:=
 let w:=Xk c s0.cu
 let s:=s0.at w.2
 let b:=(nOf s.X [0] 10 - 1) * 3
 if w.1=[114,111,117,116,101,114,45,105,100] then
  let a:=X1o c s.cu
  Xz ((s.at a.2).sto [10,0] (b + 1) [u32 a.1]) [w.1]
 else if w.1=[114,101,100,105,115,116,114,105,98,117,116,101] then
  let r:=X2r c s.cu [98,103,112] 8 true
  (s.at r.2).app [10,0] (b + 2) (rdC r.1)
 else badS c s 130
noncomputable def X40 (c:Cx) (s0:PSt):PSt:=
 let b:=(nOf s0.X [0] 11 - 1) * 6
 let a:=X1o c s0.cu
 let i:=Xje s0.X [11,0] (b + 4) 6 0 (a.1:Int)
 let o:=oneC c a.2 [[97,115],[114,111,117,116,101,45,109,97,112],[99,108,105,101,110,116],[110,101,120,116,45,104,111,112,45,115,101,108,102]]
 let k:Key:=[b + 4,11,0]
 let y:List Value:=match i with | some j=>(List.range 6).map fun q=>vOf s0.X k (j * 6 + q) | none=>[u32 0,u32 0,sv [],sv [],.bool false,.bool false]
 let ws:List Str:=[[110,101,105,103,104,98,111,114],X2a a.1]
 let n:=Xf c o.2 1 4294967295
 let g:=X1i c o.2
 let p:=oneC c g.2 [[105,110],[111,117,116]]
 let r:(List Value × List Str) × Cu:=
  if o.1=0 then (([u32 a.1,.int .u32 n.1,sv [],sv [],.bool false,.bool false],ws ++ [[97,115]]),n.2)
  else if o.1=1 then (if p.1=0 then ((y.set 2 (sv g.1),ws ++ [[114,111,117,116,101,45,109,97,112],[105,110]]),p.2) else ((y.set 3 (sv g.1),ws ++ [[114,111,117,116,101,45,109,97,112],[111,117,116]]),p.2))
  else if o.1=2 then ((y.set 4 (.bool true),ws ++ [[99,108,105,101,110,116]]),o.2) else ((y.set 5 (.bool true),ws ++ [[110,101,120,116,45,104,111,112,45,115,101,108,102]]),o.2)
 let s:=s0.at r.2
 match i with
 | none=>if o.1=0 then Xz (s.app [11,0] (b + 4) (r.1.1.map .v)) r.1.2 else s.sto [0] 16 [.bool true]
 | some j=>Xz (if o.1=0 then s else s.sto k (j * 6) r.1.1) r.1.2
noncomputable def bgpC (c:Cx) (s0:PSt):PSt:=
 let w:=Xk c s0.cu
 let s:=s0.at w.2
 let b:=(nOf s.X [0] 11 - 1) * 6
 if w.1=[114,111,117,116,101,114,45,105,100] then
  let a:=X1o c s.cu
  Xz ((s.at a.2).sto [11,0] (b + 2) [u32 a.1]) [w.1]
 else if w.1=[110,101,116,119,111,114,107] then
  let a:=X1o c s.cu
  let m:=X3t c a.2 false
  let s1:=Xz (s.at (netC c m.2 a.1 m.1)) [w.1,Xet a.1 (m.1:Int)]
  s1.app [11,0] (b + 3) [.v (u32 a.1),.v (I m.1)]
 else if w.1=[110,101,105,103,104,98,111,114] then X40 c s
 else if w.1=[114,101,100,105,115,116,114,105,98,117,116,101] then
  let r:=X2r c s.cu [111,115,112,102] 4 false
  (s.at r.2).app [11,0] (b + 5) (rdC r.1)
 else badS c s 130
end Go.Ab.Sh
