/-
  What the functions of the program answer, at every text and every question. No conditions.
-/
import Derived.Test.YtbpkpklaegnkiaaGreatDoorA0
set_option linter.unusedSimpArgs false
set_option linter.unusedVariables false
set_option maxRecDepth 100000
namespace Go.Ab
open Go Go.Lib
theorem getB (l:Str) (i:Nat) (h:i < l.length):(⟨⟨l⟩⟩:ByteArray).get! i=l[i]:=by
 show (⟨l⟩:Array UInt8)[i]! = _
 rw [getElem!_pos (⟨l⟩:Array UInt8) i h]
 rfl
theorem Xxx (l:Str) (i:Nat) (h:i < l.length) (hc:(l[i]).toNat < 128):Utf8.decode ⟨⟨l⟩⟩ i=((l[i]).toNat,1):=by
 unfold Utf8.decode
 simp only [Nat.add_zero,getB l i h]
 rw [if_pos hc]
theorem X11y (l:Str) (i:Nat) (h:i < l.length) (hc:128 ≤ (l[i]).toNat):128 ≤ (Utf8.decode ⟨⟨l⟩⟩ i).1∧((Utf8.decode ⟨⟨l⟩⟩ i).1=65533∨Utf8.valid ((Utf8.decode ⟨⟨l⟩⟩ i).1:Int)=true):=by
 unfold Utf8.decode
 simp only [Nat.add_zero,getB l i h]
 rw [if_neg (by omega)]
 split
 ·rename_i h2
  split
  ·rename_i h3
   refine ⟨h3,.inr ?_⟩
   have:=Nat.mod_lt (l[i]).toNat (by omega:0 < 32)
   have:=Nat.mod_lt ((⟨⟨l⟩⟩:ByteArray).get! (i + 1)).toNat (by omega:0 < 64)
   unfold Utf8.valid
   simp
   omega
  ·exact ⟨by show 128 ≤ Utf8.runeError; unfold Utf8.runeError; omega,.inl rfl⟩
 ·split
  ·split
   ·rename_i h3
    simp only [Bool.and_eq_true,decide_eq_true_eq] at h3
    exact ⟨by have:=h3.1; omega,.inr h3.2⟩
   ·exact ⟨by show 128 ≤ Utf8.runeError; unfold Utf8.runeError; omega,.inl rfl⟩
  ·split
   ·split
    ·rename_i h3
     simp only [Bool.and_eq_true,decide_eq_true_eq] at h3
     exact ⟨by have:=h3.1; omega,.inr h3.2⟩
    ·exact ⟨by show 128 ≤ Utf8.runeError; unfold Utf8.runeError; omega,.inl rfl⟩
   ·exact ⟨by show 128 ≤ Utf8.runeError; unfold Utf8.runeError; omega,.inl rfl⟩
def isL (c:UInt8):Bool:=decide (97 ≤ c.toNat∧c.toNat ≤ 122∨65 ≤ c.toNat∧c.toNat ≤ 90)
def isO (c:UInt8):Bool:=decide (48 ≤ c.toNat∧c.toNat ≤ 57∨c.toNat=45∨c.toNat=95∨c.toNat=46∨c.toNat=47)
def X1b (s:Str):Bool:=match s with
 | []=>false
 | a :: r=>decide (s.length ≤ 32) && (isL a && r.all fun c=>isL c || isO c)
def nmGo:Bool→Str→Bool
 | _,[]=>true
 | true,a :: r=>isL a && nmGo false r
 | false,a :: r=>(isL a || isO a) && nmGo false r
theorem Xeg:∀ (r:Str),nmGo false r=r.all fun c=>isL c || isO c
 | []=>rfl
 | a :: r=>by
  show ((isL a || isO a) && nmGo false r)=_
  rw [Xeg r]; rfl
theorem Xmk (s:Str):X1b s=(decide (s ≠ []) && (decide (s.length ≤ 32) && nmGo true s)):=by
 cases s with
 | nil=>rfl
 | cons a r =>
  show (decide _ && (isL a && r.all _))=(decide _ && (decide _ && (isL a && nmGo false r)))
  rw [Xeg]
  simp
end Go.Ab
namespace Go.Ab.Sh
open Go Go.Ab Go.Lib
theorem c_IdxByte (s:Str) (c:Nat) (hc:c < 256) (d:Nat) (m:Mem):TA d Qx [sv s,.int .u8 (c:Int)] m=some (I (indexByte s (UInt8.ofNat c)),m):=by
 refine Xhd (o:=Q16a) (by kernel_rfl) ?_ d
 show (if Qx=Qx∧IntKind.u8=IntKind.u8 then (match some (Xa5 s (c:Int)) with | some v=>some (v,m) | none=>none) else none)=_
 rw [if_pos ⟨rfl,rfl⟩,Xao,Int.toNat_natCast]
theorem c_IndexByte (s:Str) (c:Nat) (hc:c < 256) (d:Nat) (m:Mem):TA (d + 1) Q61 [sv s,.int .u8 (c:Int)] m=some (I (indexByte s (UInt8.ofNat c)),m):=by
 rw [X8l]
 refine X2a (m1:=X3 m m.next) ?_ (.refl _ _) rfl
 unfold Q3k
 simp only [c_IdxByte s c hc,X9]
abbrev odd4:Str:=[45,95,46,47]
theorem Xuv (c:UInt8):(indexByte odd4 c < 0) ↔ ¬ (c.toNat=45∨c.toNat=95∨c.toNat=46∨c.toNat=47):=by
 by_cases h1:c=45
 ·subst h1; decide
 by_cases h2:c=95
 ·subst h2; decide
 by_cases h3:c=46
 ·subst h3; decide
 by_cases h4:c=47
 ·subst h4; decide
 have n1:¬ c.toNat=45:=fun h=>h1 (UInt8.toNat_inj.mp h)
 have n2:¬ c.toNat=95:=fun h=>h2 (UInt8.toNat_inj.mp h)
 have n3:¬ c.toNat=46:=fun h=>h3 (UInt8.toNat_inj.mp h)
 have n4:¬ c.toNat=47:=fun h=>h4 (UInt8.toNat_inj.mp h)
 have e1:((45:UInt8) == c)=false:=by simp; exact fun h=>h1 h.symm
 have e2:((95:UInt8) == c)=false:=by simp; exact fun h=>h2 h.symm
 have e3:((46:UInt8) == c)=false:=by simp; exact fun h=>h3 h.symm
 have e4:((47:UInt8) == c)=false:=by simp; exact fun h=>h4 h.symm
 simp [indexByte,e1,e2,e3,e4,n1,n2,n3,n4]
theorem Xwe (l:Str) (c:UInt8) (hc:128 ≤ c.toNat) (hl:∀ x ∈ l,x.toNat < 128):indexByte l c=-1:=by
 induction l with
 | nil=>rfl
 | cons a l ih =>
  have e:(a == c)=false:=by
   simp
   intro h
   subst h
   have:=hl a (by simp)
   omega
  unfold indexByte
  rw [e,ih (fun x hx=>hl x (List.mem_cons_of_mem _ hx))]
  rfl
theorem c_Rune_lo (c:Nat) (hc:c < 128) (d:Nat) (m:Mem):TA (d + 2) Q1l [sv odd4,.int .i32 (c:Int)] m=some (I (indexByte odd4 (UInt8.ofNat c)),m):=by
 rw [X47]
 refine X2a (m1:=X3 m m.next) ?_ (.refl _ _) rfl
 have w:IntKind.u8.wrap (c:Int)=c:=by rw [IntWalk.u8_in _ (by omega)]
 unfold Q25 Q4s Q31
 simp only [Qzz,X7,Xj,if_pos (Int.natCast_nonneg c),Q34,if_pos (by omega:(c:Int) < 128),c_int,w,X9,c_IndexByte odd4 c (by omega)]
theorem c_ValidRune (c:Nat) (hv:Utf8.valid (c:Int)=true) (d:Nat) (m:Mem):TA (d + 1) Q55 [.int .i32 (c:Int)] m=some (.bool true,m):=by
 rw [X57]
 refine X2a (m1:=X3 m m.next) ?_ (.refl _ _) rfl
 unfold Utf8.valid at hv
 simp at hv
 unfold Q2c Q7y Q4b Q4a
 simp only [Qzz,X7,Xj,if_pos (Int.natCast_nonneg c),Q34]
 by_cases h1:(c:Int) < 55296
 ·rw [if_pos h1]
 ·rw [if_neg h1,if_pos (by omega),if_pos (by omega)]
theorem Xw3 (c:Nat) (h:128 ≤ c) (hv:Utf8.valid (c:Int)=true):∃ pre x,Utf8.encode (c:Int)=⟨⟨pre ++ [x]⟩⟩∧1 ≤ pre.length∧pre.length ≤ 3∧128 ≤ x.toNat:=by
 have hx:128 ≤ (UInt8.ofNat (0x80 + c % 64)).toNat:=by
  have:=Nat.mod_lt c (by omega:0 < 64)
  rw [UInt8.toNat_ofNat']
  omega
 unfold Utf8.encode
 simp only [hv,if_true,Int.toNat_natCast]
 rw [if_neg (by omega)]
 split
 ·exact ⟨[UInt8.ofNat (0xC0 + c / 64)],UInt8.ofNat (0x80 + c % 64),rfl,by simp,by simp,hx⟩
 ·split
  ·exact ⟨[UInt8.ofNat (0xE0 + c / 4096),UInt8.ofNat (0x80 + c / 64 % 64)],UInt8.ofNat (0x80 + c % 64),rfl,by simp,by simp,hx⟩
  ·exact ⟨[UInt8.ofNat (0xF0 + c / 262144),UInt8.ofNat (0x80 + c / 4096 % 64),UInt8.ofNat (0x80 + c / 64 % 64)],UInt8.ofNat (0x80 + c % 64),rfl,by simp,by simp,hx⟩
theorem c_Rune_hi (c:Nat) (hc:128 ≤ c) (hv:c=65533∨Utf8.valid (c:Int)=true) (d:Nat) (m:Mem):TA (d + 3) Q1l [sv odd4,.int .i32 (c:Int)] m=some (I (-1),m):=by
 rw [X47]
 have h0:¬ ((c:Int) < 128):=by omega
 by_cases he:c=65533
 ·subst he
  have nx:∀ (m:Mem) (b i:Nat),m.get b=some (.siter ⟨⟨odd4⟩⟩ i)→(hi:i < 4)→X3v (pt b 0 0) m=some (.tuple ⟨[.bool true,I i,.int .i32 ((odd4[i]).toNat:Int)]⟩,m.put b (.siter ⟨⟨odd4⟩⟩ (i + 1))):=by
   intro m b i hg hi
   have hdec:Utf8.decode ⟨⟨odd4⟩⟩ i=((odd4[i]).toNat,1):=Xxx odd4 i hi (by
    have hlow:∀ y ∈ odd4,y.toNat < 128:=by decide
    exact hlow _ (List.getElem_mem _))
   show (match m.get b with
    | some (.siter s pos)=>if pos < s.size then (let (c,w):=Utf8.decode s pos; some (Value.tuple #[.bool true,.int .i64 pos,.int .i32 c],m.put b (.siter s (pos + w)))) else some (Value.tuple #[.bool false],m)
    | _=>none)=_
   rw [hg]
   show (if i < 4 then (let (c,w):=Utf8.decode ⟨⟨odd4⟩⟩ i; some (Value.tuple #[.bool true,.int .i64 i,.int .i32 c],m.put b (.siter ⟨⟨odd4⟩⟩ (i + w)))) else some (Value.tuple #[.bool false],m))=_
   rw [if_pos hi,hdec]
  have nE:∀ (m:Mem) (b:Nat),m.get b=some (.siter ⟨⟨odd4⟩⟩ 4)→X3v (pt b 0 0) m=some (.tuple ⟨[.bool false]⟩,m):=by
   intro m b hg
   show (match m.get b with
    | some (.siter s pos)=>if pos < s.size then (let (c,w):=Utf8.decode s pos; some (Value.tuple #[.bool true,.int .i64 pos,.int .i32 c],m.put b (.siter s (pos + w)))) else some (Value.tuple #[.bool false],m)
    | _=>none)=_
   rw [hg]
   rfl
  have loop:∀ (k i j:Nat) (m1:Mem) (b:Nat),i + k=4→k < j→m.next ≤ b→m1.get b=some (.siter ⟨⟨odd4⟩⟩ i)→∃ m2,Q30 ⟨TA (d + 2),18446744073709551616⟩ j (pt b 0 0) m1=some (I (-1),m2)∧Fb m.next m1 m2:=by
   intro k
   induction k with
   | zero =>
    intro i j m1 b hi hj hb hg
    obtain ⟨j,rfl⟩:∃ q,j=q + 1:=⟨j - 1,by omega⟩
    have hi4:i=4:=by omega
    subst hi4
    refine ⟨m1,?_,.refl _ _⟩
    unfold Q30 Qd8
    simp only [nE m1 b hg,X9,ex0,X7,Xd]
   | succ k ih =>
    intro i j m1 b hi hj hb hg
    obtain ⟨j,rfl⟩:∃ q,j=q + 1:=⟨j - 1,by omega⟩
    obtain ⟨m2,q1,q2⟩:=ih (i + 1) j (m1.put b (.siter ⟨⟨odd4⟩⟩ (i + 1))) b (by omega) (by omega) hb (by rw [Mem.get_put,if_pos rfl])
    refine ⟨m2,?_,((Fb.refl _ _).put _ hb).trans q2⟩
    have hne:¬ (((odd4[i]'(by show i < 4; omega)).toNat:Int)=65533):=by
     have:=UInt8.toNat_lt (odd4[i]'(by show i < 4; omega))
     omega
    unfold Q30
    simp only [nx m1 b i hg (by omega),X9,ex0,ex1,ex2,X7,Xh,Q5z,Xj,if_neg hne]
    exact q1
  obtain ⟨m2,q1,q2⟩:=loop 4 0 18446744073709551616 ((X3 m m.next).push (.siter ⟨⟨odd4⟩⟩ 0)) m.next rfl (by omega) (Nat.le_refl _) (X1e (X3 m m.next) _)
  refine X2a (m1:=m2) ?_ ((Fb.push (m:=X3 m m.next) _ (Nat.le_refl _)).trans q2) rfl
  have hr:X3n (sv odd4) (X3 m m.next)=some (pt m.next 0 0,(X3 m m.next).push (.siter ⟨⟨odd4⟩⟩ 0)):=rfl
  unfold Q25 Q4s Q31 Q7k Qd9
  simp only [Qzz,X7,Xj,if_pos (Int.natCast_nonneg 65533),Q34,if_neg h0,Q5z]
  rw [if_pos (by rfl)]
  simp only [hr,X9]
  exact q1
 ·have hv:Utf8.valid (c:Int)=true:=hv.resolve_left he
  obtain ⟨pre,x,e1,e2,e3,e4⟩:=Xw3 c hc hv
  refine X2a (m1:=X3 m m.next) ?_ (.refl _ _) rfl
  have hcv:conv .intStr (.int .i32 (c:Int)) (X3 m m.next)=some (sv (pre ++ [x]),X3 m m.next):=by
   show some (Value.string (Utf8.encode (c:Int)),X3 m m.next)=_
   rw [e1]; rfl
  have w1:IntKind.i64.wrap (((pre ++ [x]).length:Int) - 1)=(pre.length:Int):=by rw [IntWalk.i64_in _ (by simp; omega)]; simp
  have w2:IntKind.i64.wrap ((pre.length:Int) + 1)=((pre.length + 1:Nat):Int):=by rw [IntWalk.i64_in _ (by omega)]; omega
  have hne:¬ ((c:Int)=65533):=by omega
  have lt4:(pre.length:Int) < (odd4.length:Int):=by show (pre.length:Int) < (4:Nat); omega
  have o4:odd4.length=4:=rfl
  have hlow:∀ y ∈ odd4,y.toNat < 128:=by decide
  have hix:(odd4[pre.length]'(by rw [o4]; omega)).toNat < 128:=hlow _ (List.getElem_mem _)
  have hpx:(pre ++ [x])[pre.length]'(by simp)=x:=by simp
  have hxl:=UInt8.toNat_lt x
  have hd:indexByte (odd4.drop (pre.length + 1)) (UInt8.ofNat x.toNat)=-1:=by
   have:UInt8.ofNat x.toNat=x:=by apply UInt8.toNat_inj.mp; rw [UInt8.toNat_ofNat']; omega
   rw [this]
   exact Xwe _ x e4 (fun y hy=>hlow y (List.mem_of_mem_drop hy))
  have cI:=c_IndexByte (odd4.drop (pre.length + 1)) x.toNat hxl (d + 1) (X3 m m.next)
  rw [hd] at cI
  unfold Q25 Q4s Q31 Q7k Qdd Qdc Qdb Qda Qbw
  simp only [Qzz,X7,Xj,if_pos (Int.natCast_nonneg c),Q34,if_neg h0,Q5z,if_neg hne,c_ValidRune c hv (d + 1),X9,X2o,Bool.not_true,Xd,hcv,Xou,Q14o,w1]
  show Qk ⟨TA (d + 2),18446744073709551616⟩ (18446744073709551615 + 1) _ _ _ _ _=_
  unfold Qk Qbv
  have i1:=Xxs odd4 .i64 pre.length (by rw [o4]; omega)
  have i2:=Xxs (pre ++ [x]) .i64 pre.length (by simp)
  rw [hpx] at i2
  have hq:((odd4[pre.length]'(by rw [o4]; omega)).toNat:Int) ≠ (x.toNat:Int):=by omega
  simp only [Xou,X7,Q34,Xj,if_pos lt4,i1,i2,Q8k,if_pos hq,Qqz,w2,Xhp odd4 (pre.length + 1) (by rw [o4]; omega),cI,X9]
  rfl
theorem Xtr {β:Type} (c:UInt8) (f:Bool→Option β) :
  (if (97:Int) ≤ (c.toNat:Int) then (if (c.toNat:Int) ≤ 122 then f true else if (65:Int) ≤ (c.toNat:Int) then f (decide ((c.toNat:Int) ≤ 90)) else f false) else if (65:Int) ≤ (c.toNat:Int) then f (decide ((c.toNat:Int) ≤ 90)) else f false)=f (isL c):=by
 by_cases h1:(97:Int) ≤ (c.toNat:Int)
 ·rw [if_pos h1]
  by_cases h2:(c.toNat:Int) ≤ 122
  ·rw [if_pos h2,show isL c=true by unfold isL; simp; omega]
  ·rw [if_neg h2,if_pos (by omega),show decide ((c.toNat:Int) ≤ 90)=false by simp; omega,show isL c=false by unfold isL; simp; omega]
 ·rw [if_neg h1]
  by_cases h3:(65:Int) ≤ (c.toNat:Int)
  ·rw [if_pos h3]
   congr 1
   unfold isL
   rw [decide_eq_decide]
   omega
  ·rw [if_neg h3,show isL c=false by unfold isL; simp; omega]
theorem Xum {l:Str} {m:Mem} {b i:Nat} (hg:m.get b=some (.siter ⟨⟨l⟩⟩ i)) (hi:i < l.length):X3v (pt b 0 0) m=some (.tuple ⟨[.bool true,I i,.int .i32 ((Utf8.decode ⟨⟨l⟩⟩ i).1:Int)]⟩,m.put b (.siter ⟨⟨l⟩⟩ (i + (Utf8.decode ⟨⟨l⟩⟩ i).2))):=by
 show (match m.get b with
  | some (.siter s pos)=>if pos < s.size then (let (c,w):=Utf8.decode s pos; some (Value.tuple #[.bool true,.int .i64 pos,.int .i32 c],m.put b (.siter s (pos + w)))) else some (Value.tuple #[.bool false],m)
  | _=>none)=_
 rw [hg]
 show (if i < l.length then (let (c,w):=Utf8.decode ⟨⟨l⟩⟩ i; some (Value.tuple #[.bool true,.int .i64 i,.int .i32 c],m.put b (.siter ⟨⟨l⟩⟩ (i + w)))) else some (Value.tuple #[.bool false],m))=_
 rw [if_pos hi]
theorem Xx3 {l:Str} {m:Mem} {b i:Nat} (hg:m.get b=some (.siter ⟨⟨l⟩⟩ i)) (hi:¬ i < l.length):X3v (pt b 0 0) m=some (.tuple ⟨[.bool false]⟩,m):=by
 show (match m.get b with
  | some (.siter s pos)=>if pos < s.size then (let (c,w):=Utf8.decode s pos; some (Value.tuple #[.bool true,.int .i64 pos,.int .i32 c],m.put b (.siter s (pos + w)))) else some (Value.tuple #[.bool false],m)
  | _=>none)=_
 rw [hg]
 show (if i < l.length then _ else _)=_
 rw [if_neg hi]
theorem Xbc (d:Nat) (B:Nat) (s:Str) (hs:s.length ≤ 4194304) (b:Nat) (hB:B ≤ b):∀ (rest pre:Str) (m:Mem) (k:Nat),s=pre ++ rest→rest.length < k→m.get b=some (.siter ⟨⟨s⟩⟩ pre.length) →
  ∃ m1,Q29 ⟨TA (d + 3),18446744073709551616⟩ k (pt b 0 0) m=some (.bool (nmGo (decide (pre=[])) rest),m1)∧Fb B m m1
 | [],pre,m,k,he,hk,hg=>by
  obtain ⟨k,rfl⟩:∃ q,k=q + 1:=⟨k - 1,by omega⟩
  refine ⟨m,?_,.refl _ _⟩
  have hn:¬ pre.length < s.length:=by rw [he]; simp
  unfold Q29 Qnm Qup
  simp only [Xx3 hg hn,X9,ex0,X7,Xd]
  cases decide (pre=[]) <;> rfl
 | a :: rest,pre,m,k,he,hk,hg=>by
  obtain ⟨k,rfl⟩:∃ q,k=q + 1:=⟨k - 1,by omega⟩
  have hl:pre.length < s.length:=by rw [he]; simp
  have hix:s[pre.length]=a:=by simp [he]
  have e0:Value.string ⟨#[45,95,46,47]⟩=sv odd4:=rfl
  have hF:Fb B m (m.put b (.siter ⟨⟨s⟩⟩ (pre.length + (Utf8.decode ⟨⟨s⟩⟩ pre.length).2))):=(Fb.refl _ _).put _ hB
  unfold Q29 Qnm Qur Quq
  simp only [Xum hg hl,X9,ex0,ex1,ex2,X7,Xh,Q1e9,Qzz,Xj]
  by_cases hlo:a.toNat < 128
  ·have hdec:=Xxx s pre.length hl (by rw [hix]; exact hlo)
   rw [hix] at hdec
   rw [hdec] at hF ⊢
   simp only at hF ⊢
   rw [Xtr a fun p5=>Q5c ⟨TA (d + 3),18446744073709551616⟩ (Q29 ⟨TA (d + 3),18446744073709551616⟩ k) (.bool p5) (I pre.length) (.int .i32 (a.toNat:Int)) (pt b 0 0) (m.put b (.siter ⟨⟨s⟩⟩ (pre.length + 1)))]
   obtain ⟨m1,q1,q2⟩:=Xbc d B s hs b hB rest (pre ++ [a]) (m.put b (.siter ⟨⟨s⟩⟩ (pre.length + 1))) k (by rw [he]; simp) (by simp at hk; omega) (by rw [Mem.get_put,if_pos rfl]; simp)
   have hnp:decide (pre ++ [a]=[])=false:=by simp
   rw [hnp] at q1
   unfold Q5c Q71
   simp only [X2o,X7,Xq8]
   cases hL:isL a with
   | true =>
    refine ⟨m1,?_,hF.trans q2⟩
    simp only [Bool.not_true,Bool.false_eq_true,if_false]
    rw [q1]
    have:nmGo (decide (pre=[])) (a :: rest)=nmGo false rest:=by
     cases decide (pre=[])
     ·show ((isL a || isO a) && nmGo false rest)=_
      rw [hL]; simp
     ·show (isL a && nmGo false rest)=_
      rw [hL]; simp
    rw [this]
   | false =>
    simp only [Bool.not_false,if_true,Q5z,X7,Xj]
    by_cases hp:pre=[]
    ·subst hp
     refine ⟨_,?_,hF⟩
     rw [if_pos (by rfl)]
     have:nmGo (decide (([]:Str)=[])) (a :: rest)=false:=by
      show (isL a && nmGo false rest)=_
      rw [hL]; rfl
     rw [this]
    ·have hp0:¬ ((pre.length:Int)=0):=by
      intro h
      exact hp (List.length_eq_zero_iff.mp (by omega))
     rw [if_neg hp0]
     have hgo:nmGo (decide (pre=[])) (a :: rest)=(isO a && nmGo false rest):=by
      rw [show decide (pre=[])=false by simpa using hp]
      show ((isL a || isO a) && nmGo false rest)=_
      rw [hL]; simp
     rw [hgo]
     have ofa:UInt8.ofNat a.toNat=a:=by apply UInt8.toNat_inj.mp; rw [UInt8.toNat_ofNat']; have:=UInt8.toNat_lt a; omega
     have cR:=c_Rune_lo a.toNat hlo (d + 1) (m.put b (.siter ⟨⟨s⟩⟩ (pre.length + 1)))
     rw [ofa] at cR
     have cR:TA (d + 3) Q1l [sv odd4,.int .i32 (a.toNat:Int)] (m.put b (.siter ⟨⟨s⟩⟩ (pre.length + 1)))=_:=cR
     simp only [Q34,X7,Xj,e0,cR,X9,Qwd,Xq8,decide_eq_true_eq]
     -- what is no digit is looked up
     have look:(if indexByte odd4 a < 0 then some (Value.bool false,m.put b (.siter ⟨⟨s⟩⟩ (pre.length + 1))) else Q29 ⟨TA (d + 3),18446744073709551616⟩ k (pt b 0 0) (m.put b (.siter ⟨⟨s⟩⟩ (pre.length + 1))))=some (.bool (decide (a.toNat=45∨a.toNat=95∨a.toNat=46∨a.toNat=47) && nmGo false rest),if indexByte odd4 a < 0 then m.put b (.siter ⟨⟨s⟩⟩ (pre.length + 1)) else m1):=by
      by_cases hi:indexByte odd4 a < 0
      ·rw [if_pos hi,if_pos hi]
       have:=(Xuv a).mp hi
       rw [decide_eq_false this]; rfl
      ·rw [if_neg hi,if_neg hi,q1]
       have:a.toNat=45∨a.toNat=95∨a.toNat=46∨a.toNat=47:=Decidable.byContradiction fun h=>hi ((Xuv a).mpr h)
       rw [decide_eq_true this]; rfl
     have hF3:Fb B m (if indexByte odd4 a < 0 then m.put b (.siter ⟨⟨s⟩⟩ (pre.length + 1)) else m1):=by
      split
      ·exact hF
      ·exact hF.trans q2
     by_cases h48:(a.toNat:Int) < 48
     ·rw [if_pos h48,look]
      refine ⟨_,?_,hF3⟩
      have:isO a=decide (a.toNat=45∨a.toNat=95∨a.toNat=46∨a.toNat=47):=by unfold isO; rw [decide_eq_decide]; omega
      rw [this]
     ·rw [if_neg h48]
      by_cases h57:(57:Int) < (a.toNat:Int)
      ·rw [if_pos h57,look]
       refine ⟨_,?_,hF3⟩
       have:isO a=decide (a.toNat=45∨a.toNat=95∨a.toNat=46∨a.toNat=47):=by unfold isO; rw [decide_eq_decide]; omega
       rw [this]
      ·rw [if_neg h57]
       refine ⟨m1,?_,hF.trans q2⟩
       simp only [Bool.false_eq_true,if_false]
       rw [q1]
       have:isO a=true:=by unfold isO; simp; omega
       rw [this]; rfl
  ·have hhi:128 ≤ a.toNat:=by omega
   obtain ⟨h1,h2⟩:=X11y s pre.length hl (by rw [hix]; exact hhi)
   generalize hr:(Utf8.decode ⟨⟨s⟩⟩ pre.length).1=r at h1 h2
   have hLa:isL a=false:=by unfold isL; simp; omega
   have hOa:isO a=false:=by unfold isO; simp; omega
   have hgo:nmGo (decide (pre=[])) (a :: rest)=false:=by
    cases decide (pre=[])
    ·show ((isL a || isO a) && _)=_
     rw [hLa,hOa]; rfl
    ·show (isL a && _)=_
     rw [hLa]; rfl
   refine ⟨_,?_,hF⟩
   rw [hgo]
   have r1:(97:Int) ≤ (r:Int):=by omega
   have r2:¬ ((r:Int) ≤ 122):=by omega
   have r3:(65:Int) ≤ (r:Int):=by omega
   have r4:¬ ((r:Int) ≤ 90):=by omega
   have r5:¬ ((r:Int) < 48):=by omega
   have r6:(57:Int) < (r:Int):=by omega
   unfold Q5c Q71
   have cR:∀ m,TA (d + 3) Q1l [sv odd4,.int .i32 (r:Int)] m=some (I (-1),m):=fun m=>c_Rune_hi r h1 h2 d m
   have dR:decide ((r:Int) ≤ 90)=false:=decide_eq_false r4
   simp only [if_pos r1,if_neg r2,if_pos r3,dR,X2o,X7,Bool.not_false,Xh,Q5z,Xj,Q34,if_neg r5,Qwd,if_pos r6,e0,cR,X9]
   by_cases hp:(pre.length:Int)=0
   ·rw [if_pos hp]
   ·rw [if_neg hp]
    rfl
end Go.Ab.Sh

set_option maxRecDepth 100000
namespace Go.Ab.Sh
open Go Go.Ab Go.Lib
theorem c_lexName (s:Str) (hs:s.length ≤ 4194304) (d:Nat) (m:Mem):TA (d + 4) Qn1 [sv s] m=some (.bool (X1b s),m):=by
 rw [Xq9]
 have e0:Value.string ⟨#[]⟩=sv []:=rfl
 rw [Xmk]
 unfold Qio Quu Ql7
 simp only [e0,Q18x,X7,Xj,Xh,Xou,Qwd]
 by_cases h0:s=[]
 ·rw [if_pos h0,decide_eq_false (by simpa using h0)]
  exact X2a rfl (.refl _ _) rfl
 ·rw [if_neg h0,decide_eq_true h0,Bool.true_and]
  by_cases h1:(32:Int) < s.length
  ·rw [if_pos h1,decide_eq_false (by omega)]
   exact X2a rfl (.refl _ _) rfl
  ·rw [if_neg h1,decide_eq_true (by omega),Bool.true_and]
   obtain ⟨m1,q1,q2⟩:=Xbc d m.next s hs m.next (Nat.le_refl _) s [] ((X3 m m.next).push (.siter ⟨⟨s⟩⟩ 0)) 18446744073709551616 rfl (by omega) (X1e (X3 m m.next) _)
   refine X2a (m1:=m1) ?_ ((Fb.push (m:=X3 m m.next) _ (Nat.le_refl _)).trans q2) rfl
   have hr:X3n (sv s) (X3 m m.next)=some (pt m.next 0 0,(X3 m m.next).push (.siter ⟨⟨s⟩⟩ 0)):=rfl
   unfold Qut Qus
   simp only [hr,X9]
   exact q1
end Go.Ab.Sh

set_option maxRecDepth 100000
namespace Go.Ab
open Go Go.Lib
def X6j:Str:=[32,114,101,97,99,104,32,97,108,119,97,121,115,32,108,111,111,112,32,116,114,97,99,101,32,114,111,117,116,101,115,32,107,110,111,119,115,32,111,119,110,101,114,32]
def Xdu:Str:=[32,97,99,99,101,112,116,101,100,32,100,101,110,105,101,100,45,105,110,32,100,101,110,105,101,100,45,111,117,116,32,110,111,45,114,111,117,116,101,32,110,111,119,104,101,114,101,32,100,101,108,105,118,101,114,101,100,32,108,111,115,116,32]
def kindsL:List Str:=[[114,101,97,99,104],[97,108,119,97,121,115],[108,111,111,112],[116,114,97,99,101],[114,111,117,116,101,115],[107,110,111,119,115],[111,119,110,101,114]]
def endsL:List Str:=[[97,99,99,101,112,116,101,100],[100,101,110,105,101,100,45,105,110],[100,101,110,105,101,100,45,111,117,116],[110,111,45,114,111,117,116,101],[110,111,119,104,101,114,101],[100,101,108,105,118,101,114,101,100],[108,111,115,116]]
def posG (i:Nat):List Str→Str→Nat
 | [],_=>0
 | w :: ws,s=>if s=w then i + 1 else posG (i + 1) ws s
abbrev headsV:Value:=.agg ⟨[.bool true,I (-1),.int .u32 0,I 0,.int .u32 0,I 0,.int .u32 0,.int .u32 65535,.int .u32 0,.int .u32 65535]⟩
def X21 (s:Str):Option (Nat × Nat):=match cut 45 s with
 | none=>none
 | some (a,b)=>match num 65535 a,num 65535 b with
  | some lo,some hi=>if lo ≤ hi∧hi - lo < 65535 then some (lo,hi) else none
  | _,_=>none
abbrev X1k (lo hi:Int):Value:=.agg ⟨[.int .u32 lo,.int .u32 hi]⟩
def X17 (lo hi:Nat):Str:=decDigits lo ++ [45] ++ decDigits hi
end Go.Ab
namespace Go.Ab.Sh
open Go Go.Ab Go.Lib
theorem c_Fields (s:Str) (h:(Nat.blt (⟨⟨s⟩⟩:ByteArray).size 4294967281 && X7o s)=true) (ws:List Str) (hw:X1x s=ws.map sv) (d:Nat) (m:Mem) :
  TA d Q4k [sv s] m=some (.slice (some ⟨m.next,0,some 1⟩) ws.length 1,m.push (.cells (ws.map sv) 0 0 false none)):=by
 refine Xhd (o:=Q1fe) (by kernel_rfl) ?_ d
 show (if Q4k=Q4k then (match Nat.blt (⟨⟨s⟩⟩:ByteArray).size 4294967281 && X7o s with
   | true=>some (Value.slice (some ⟨m.next,0,some 1⟩) (X1x s).length 1,m.push (.cells (X1x s) 0 0 false none))
   | false=>none) else none)=_
 rw [if_pos rfl,h,hw,List.length_map]
theorem fK:X1x X6j=kindsL.map sv:=by kernel_rfl
theorem fE:X1x Xdu=endsL.map sv:=by kernel_rfl
theorem aK:(Nat.blt (⟨⟨X6j⟩⟩:ByteArray).size 4294967281 && X7o X6j)=true:=by kernel_rfl
theorem aE:(Nat.blt (⟨⟨Xdu⟩⟩:ByteArray).size 4294967281 && X7o Xdu)=true:=by kernel_rfl
theorem Xts (m:Mem) (ws:List Str) (ty:Option Nat):SL (m.push (.cells (ws.map sv) 0 0 false ty)) (.slice (some ⟨m.next,0,some 1⟩) ws.length 1) ws:=
 ⟨m.next,0,1,ws.map sv,0,false,ty,rfl,by show m.next < m.next + 1; omega,X1e m _,by simp,fun i w hw=>by rw [Nat.zero_add,List.getElem?_map,hw]; rfl⟩
theorem Xfh (G:Gt) (v:Value) (m:Mem) (ws:List Str) (hl:ws.length ≤ 1000) (hS:SL m v ws) (s:Str):∀ (rest pre:List Str) (k:Nat),ws=pre ++ rest→rest.length < k →
  Qt G k (I pre.length) (I ws.length) (sv s) v m=some (I ((posG pre.length rest s:Nat) - 1),m)
 | [],pre,k,he,hk=>by
  obtain ⟨k,rfl⟩:∃ q,k=q + 1:=⟨k - 1,by omega⟩
  have h:ws.length=pre.length:=by rw [he]; simp
  unfold Qt Q45
  simp only [Q34,X7,Xj,h,Int.lt_irrefl,if_false]
  rfl
 | w :: rest,pre,k,he,hk=>by
  obtain ⟨k,rfl⟩:∃ q,k=q + 1:=⟨k - 1,by omega⟩
  have h:ws.length=pre.length + (rest.length + 1):=by rw [he]; simp
  obtain ⟨p,l1,l2⟩:=hS.at (i:=pre.length) (w:=w) (by rw [he]; simp)
  have w1:IntKind.i64.wrap ((pre.length:Int) + 1)=((pre.length + 1:Nat):Int):=by rw [IntWalk.i64_in _ (by omega)]; omega
  unfold Qt posG
  simp only [Q34,X7,Xj,if_pos (by omega:(pre.length:Int) < (ws.length:Int)),l1,l2,Q18x]
  by_cases hc:s=w
  ·rw [if_pos hc,if_pos hc]
   congr 3
   omega
  ·rw [if_neg hc,if_neg hc]
   simp only [Qqz,w1,X7]
   have:=Xfh G v m ws hl hS s rest (pre ++ [w]) k (by rw [he]; simp) (by simp at hk; omega)
   rw [List.length_append,List.length_cons,List.length_nil] at this
   exact this
theorem Xa4:∀ (ws:List Str) (i:Nat) (s:Str),posG i ws s ≤ i + ws.length
 | [],i,s=>Nat.zero_le _
 | w :: ws,i,s=>by
  unfold posG
  split
  ·simp
  ·have:=Xa4 ws (i + 1) s
   simp; omega
theorem Xju (all:Str) (ws:List Str) (ha:(Nat.blt (⟨⟨all⟩⟩:ByteArray).size 4294967281 && X7o all)=true) (hf:X1x all=ws.map sv) (hl:ws.length ≤ 1000) (s:Str) (d:Nat) (m:Mem) :
  TA (d + 2) Q3o [sv all,sv s] m=some (I (posG 0 ws s:Nat),m):=by
 rw [Xm6]
 refine X2a (m1:=(X3 m m.next).push (.cells (ws.map sv) 0 0 false none)) ?_ (Fb.push _ (Nat.le_refl _)) rfl
 have hI:∀ m v,SL m v ws→TA (d + 1) Q2p [v,sv s] m=some (I ((posG 0 ws s:Nat) - 1),m):=by
  intro m v hS
  rw [X38]
  refine X2a (m1:=X3 m m.next) ?_ (.refl _ _) rfl
  obtain ⟨bs,hb1,hb2,_⟩:=hS.block
  have hS':SL (X3 m m.next) v ws:=hb2 _ (Nat.le_refl _) rfl
  unfold Q14 Q47 Q46
  simp only [hS'.len,X7]
  exact Xfh ⟨TA d,18446744073709551616⟩ v (X3 m m.next) ws hl hS' s ws [] 18446744073709551616 rfl (by omega)
 have hp:=Xa4 ws 0 s
 have w1:IntKind.i64.wrap ((((posG 0 ws s:Nat):Int) - 1) + 1)=((posG 0 ws s:Nat):Int):=by rw [IntWalk.i64_in _ (by omega)]; omega
 unfold Qg9
 simp only [c_Fields all ha ws hf,X9,hI _ _ (Xts (X3 m m.next) ws none),Qqz,w1,X7]
theorem c_placeK (s:Str) (d:Nat) (m:Mem):TA (d + 2) Q3o [sv X6j,sv s] m=some (I (posG 0 kindsL s:Nat),m):=Xju X6j kindsL aK fK (by decide) s d m
theorem c_placeE (s:Str) (d:Nat) (m:Mem):TA (d + 2) Q3o [sv Xdu,sv s] m=some (I (posG 0 endsL s:Nat),m):=Xju Xdu endsL aE fE (by decide) s d m
theorem X134:X18 Qv [(0,1),(1,1)] [(1,.int .u32 65535)]=some (X1k 0 65535):=Eq.trans rfl rfl
theorem aBsp (a b:Int):X18 Qv [(0,1),(1,1)] [(0,.int .u32 a),(1,.int .u32 b)]=some (X1k a b):=Eq.trans rfl rfl
theorem Xz6:X18 Qb4 [(0,1),(1,1),(2,2),(4,2),(6,2),(8,2)] [(0,.bool true),(1,.int .i64 (-1)),(4,X1k 0 65535),(5,X1k 0 65535)]=some headsV:=Eq.trans rfl rfl
theorem c_heads (d:Nat) (m:Mem):TA (d + 1) Qjr [] m=some (headsV,m):=by
 rw [Xl9]
 let m0:=(X3 m m.next).push (.cells Qb4 0 0 false (some (2 * Qik + 1)))
 have g0:m0.get m.next=some (.cells Qb4 0 0 false (some (2 * Qik + 1))):=X1e (X3 m m.next) _
 obtain ⟨mE,r1,r2,_⟩:=X2j (n:=10) (tail:=[]) g0 rfl (vs:=headsV.cells.toList) rfl rfl (Nat.le_refl m.next)
 refine X2a (m1:=mE) ?_ ((Fb.push (m:=X3 m m.next) _ (Nat.le_refl _)).trans r2) rfl
 unfold Qga
 rw [X13]
 simp only [X134,Xz6,X7]
 exact r1
end Go.Ab.Sh

set_option maxRecDepth 100000
namespace Go.Ab.Sh
open Go Go.Ab Go.Lib
def numV (o:Option Nat):Nat:=o.getD 0
theorem c_lexNumber' (s:Str) (hs:s.length ≤ 4194304) (most:Nat) (hm:most < 1000000000000) (d:Nat) (m:Mem) :
  TA (d + 1) Q1p [sv s,I most] m=some (.tuple ⟨[I (numV (num most s)),.bool (num most s).isSome]⟩,m):=by
 rw [c_lexNumber s hs most hm]
 cases num most s <;> rfl
theorem Xqt {most:Nat} (s:Str):numV (num most s) ≤ most:=by
 cases h:num most s with
 | none=>exact Nat.zero_le _
 | some n=>exact (num_some.mp h).2
theorem c_ports (s:Str) (hs:s.length ≤ 4194304) (d:Nat) (m:Mem):∃ lo hi:Int,TA (d + 3) Q6o [sv s] m=some (.tuple ⟨[X1k lo hi,.bool (X21 s).isSome]⟩,m)∧∀ a b,X21 s=some (a,b)→lo=a∧hi=b:=by
 have hcl:=Xmn 45 s
 let x:=(cutO 45 s).1
 let y:=(cutO 45 s).2.1
 let lo:=numV (num 65535 x)
 let hi:=numV (num 65535 y)
 have l1:lo ≤ 65535:=Xqt x
 have l2:hi ≤ 65535:=Xqt y
 have hP:X21 s=if (cutO 45 s).2.2=true∧(num 65535 x).isSome=true∧(num 65535 y).isSome=true∧lo ≤ hi∧hi - lo < 65535 then some (lo,hi) else none:=by
  show X21 s=if (cutO 45 s).2.2=true∧(num 65535 (cutO 45 s).1).isSome=true∧(num 65535 (cutO 45 s).2.1).isSome=true∧numV (num 65535 (cutO 45 s).1) ≤ numV (num 65535 (cutO 45 s).2.1)∧numV (num 65535 (cutO 45 s).2.1) - numV (num 65535 (cutO 45 s).1) < 65535 then some (numV (num 65535 (cutO 45 s).1),numV (num 65535 (cutO 45 s).2.1)) else none
  unfold X21 cutO
  cases cut 45 s with
  | none=>simp
  | some p =>
   obtain ⟨a,b⟩:=p
   simp only
   cases num 65535 a with
   | none=>simp
   | some u=>cases num 65535 b with
    | none=>simp
    | some w=>simp [numV]
 refine ⟨lo,hi,?_,?_⟩
 ·rw [Xm1]
  let m0:=(X3 m m.next).push (.cells Qv 0 0 false (some (2 * Qu + 1)))
  have g0:m0.get m.next=some (.cells Qv 0 0 false (some (2 * Qu + 1))):=X1e (X3 m m.next) _
  have F0:Fb m.next (X3 m m.next) m0:=Fb.push _ (Nat.le_refl _)
  have ret:∀ (c:Bool),∃ m1,(bp (unt (X8 2 (pt m.next 0 0) (X1k lo hi) m0)) fun _ m_1=>Q7v ⟨TA (d + 2),18446744073709551616⟩ (pt m.next 0 0) (.bool c) m_1)=some (.tuple ⟨[X1k lo hi,.bool c]⟩,m1)∧Fb m.next m0 m1:=by
   intro c
   obtain ⟨mE,r1,r2,_⟩:=X2j (n:=2) (tail:=[.bool c]) g0 rfl (vs:=(X1k lo hi).cells.toList) rfl rfl (Nat.le_refl m.next)
   exact ⟨mE,r1,r2⟩
  have hcut:TA (d + 2) Q3c [sv s,.string ⟨#[45]⟩] m0=_:=c_CutO s hs 45 d m0
  have n1:TA (d + 2) Q1p [sv x,.int .i64 65535] m0=_:=c_lexNumber' x (by have:=hcl.1; show (cutO 45 s).1.length ≤ _; omega) 65535 (by omega) (d + 1) m0
  have n2:TA (d + 2) Q1p [sv y,.int .i64 65535] m0=_:=c_lexNumber' y (by have:=hcl.2; show (cutO 45 s).2.1.length ≤ _; omega) 65535 (by omega) (d + 1) m0
  have wl:IntKind.u32.wrap (lo:Int)=lo:=by rw [IntWalk.u32_in _ (by omega)]
  have wh:IntKind.u32.wrap (hi:Int)=hi:=by rw [IntWalk.u32_in _ (by omega)]
  have w4:IntKind.i64.wrap ((hi:Int) - lo)=(hi:Int) - lo:=by rw [IntWalk.i64_in _ (by omega)]
  have aB:=aBsp lo hi
  have go:∃ m1,Ql8 ⟨TA (d + 2),18446744073709551616⟩ (sv s) (pt m.next 0 0) m0=some (.tuple ⟨[X1k lo hi,.bool (X21 s).isSome]⟩,m1)∧Fb m.next m0 m1:=by
   unfold Ql8 Qsd Qsc Qsb
   have n1':TA (d + 2) Q1p [sv (cutO 45 s).1,.int .i64 65535] m0=some (.tuple ⟨[I lo,.bool (num 65535 x).isSome]⟩,m0):=n1
   have n2':TA (d + 2) Q1p [sv (cutO 45 s).2.1,.int .i64 65535] m0=some (.tuple ⟨[I hi,.bool (num 65535 y).isSome]⟩,m0):=n2
   simp only [hcut,X9,ex0,ex1,ex2,X7,n1',n2',c_int,wl,wh,aB,Xq8,Qzz,Xj,Q14o,w4,Q34,decide_eq_true_eq]
   cases hc:(cutO 45 s).2.2 with
   | false =>
    have hE:X21 s=none:=by rw [hP,if_neg (by rw [hc]; simp)]
    rw [hE]
    simp only [Bool.false_eq_true,if_false]
    exact ret false
   | true =>
    simp only [if_true]
    cases h1:(num 65535 x).isSome with
    | false =>
     have hE:X21 s=none:=by rw [hP,if_neg (by rw [h1]; simp)]
     rw [hE]
     simp only [Bool.false_eq_true,if_false]
     exact ret false
    | true =>
     simp only [if_true]
     cases h2:(num 65535 y).isSome with
     | false =>
      have hE:X21 s=none:=by rw [hP,if_neg (by rw [h2]; simp)]
      rw [hE]
      simp only [Bool.false_eq_true,if_false]
      exact ret false
     | true =>
      simp only [if_true]
      by_cases h3:(lo:Int) ≤ hi
      ·rw [if_pos h3]
       have hE:(X21 s).isSome=decide ((hi:Int) - lo < 65535):=by
        rw [hP]
        by_cases h4:hi - lo < 65535
        ·rw [if_pos ⟨hc,h1,h2,by omega,h4⟩,decide_eq_true (by omega)]; rfl
        ·rw [if_neg (fun h=>h4 h.2.2.2.2),decide_eq_false (by omega)]; rfl
       rw [hE]
       exact ret _
      ·rw [if_neg h3]
       have hE:X21 s=none:=by rw [hP,if_neg (fun h=>h3 (by have:=h.2.2.2.1; omega))]
       rw [hE]
       exact ret false
  obtain ⟨m1,k1,k2⟩:=go
  refine X2a (m1:=m1) ?_ (F0.trans k2) rfl
  unfold Qgb
  rw [X13]
  exact k1
 ·intro a b h
  rw [hP] at h
  split at h
  ·cases h; exact ⟨rfl,rfl⟩
  ·cases h
theorem Xpn (lo hi:Int):(X1k lo hi).cells.toList=[.int .u32 lo,.int .u32 hi]:=rfl
theorem c_spanA (lo hi:Nat) (h1:lo < 4294967296) (h2:hi < 4294967296) (d:Nat) (m:Mem):TA (d + 1) Q6y [X1k lo hi] m=some (sv (X17 lo hi),m):=by
 rw [Xjq]
 refine X2a (m1:=(X3 m m.next).push (.cells [.int .u32 (lo:Int),.int .u32 (hi:Int)] 0 0 false (some (2 * Qu + 1)))) ?_ (Fb.push _ (Nat.le_refl _)) rfl
 have l0:=X2b (m:=X3 m m.next) (cs:=[.int .u32 (lo:Int),.int .u32 (hi:Int)]) (ty:=some (2 * Qu + 1)) (o:=0 + 0) rfl
 have l1:=X2b (m:=X3 m m.next) (cs:=[.int .u32 (lo:Int),.int .u32 (hi:Int)]) (ty:=some (2 * Qu + 1)) (o:=0 + 1) rfl
 have e0:Value.string ⟨#[45]⟩=sv [45]:=rfl
 have q1:=X2l lo (by omega)
 have q2:=X2l hi (by omega)
 have c1:∀ m,TA d Qb [I lo] m=some (sv (decDigits lo),m):=fun m=>c_ItoaN lo (by omega) d m
 have c2:∀ m,TA d Qb [I hi] m=some (sv (decDigits hi),m):=fun m=>c_ItoaN hi (by omega) d m
 unfold Qd7 X17
 rw [Xpn,X13]
 simp only [Xy,X7,l0,l1,c_int,IntWalk.i64_in (lo:Int) (by omega),IntWalk.i64_in (hi:Int) (by omega),X9,c1,c2,X3p,Bool.and_true,X2h,e0,Qka _ _ (decDigits lo) [45] (by simp; omega),Qka _ _ (decDigits lo ++ [45]) (decDigits hi) (by simp; omega)]
end Go.Ab.Sh

set_option maxRecDepth 100000
namespace Go.Ab
open Go Go.Lib Go.Ab.Sh
structure Rl where
 permit:Bool
 proto:Int
 sa:Nat
 sb:Int
 da:Nat
 db:Int
 sl:Nat
 sh:Nat
 dl:Nat
 dh:Nat
def rlC (r:Rl):List Value:=[.bool r.permit,I r.proto,.int .u32 (r.sa:Int),I r.sb,.int .u32 (r.da:Int),I r.db,.int .u32 (r.sl:Int),.int .u32 (r.sh:Int),.int .u32 (r.dl:Int),.int .u32 (r.dh:Int)]
abbrev rlV (r:Rl):Value:=.agg ⟨rlC r⟩
structure RlOk (r:Rl):Prop where
 proto:X7c r.proto=true
 sa:r.sa < 4294967296
 sb:X7c r.sb=true
 da:r.da < 4294967296
 db:X7c r.db=true
 sl:r.sl < 4294967296
 sh:r.sh < 4294967296
 dl:r.dl < 4294967296
 dh:r.dh < 4294967296
structure QN where
 kind:Nat
 dev:Str
 ifc:Str
 vrf:Str
 en:Nat
 r:Rl
 a:Nat
 b:Nat
 p:Nat
 m:Nat
 n:Nat
 hops:Int
 ad:Nat
def qC (q:QN):List Value:=[.int .u8 (q.kind:Int),sv q.dev,sv q.ifc,sv q.vrf,.int .u8 (q.en:Int),.bool q.r.permit,I q.r.proto,.int .u32 (q.r.sa:Int),I q.r.sb,.int .u32 (q.r.da:Int),I q.r.db,.int .u32 (q.r.sl:Int),.int .u32 (q.r.sh:Int),.int .u32 (q.r.dl:Int),.int .u32 (q.r.dh:Int),
 .int .u32 (q.a:Int),.int .u32 (q.b:Int),.int .u8 (q.p:Int),.int .u16 (q.m:Int),.int .u16 (q.n:Int),I q.hops,.int .u32 (q.ad:Int)]
abbrev qV (q:QN):Value:=.agg ⟨qC q⟩
def rl0:Rl:=⟨false,0,0,0,0,0,0,0,0,0⟩
def rlH:Rl:=⟨true,-1,0,0,0,0,0,65535,0,65535⟩
def q0:QN:=⟨0,[],[],[],0,rl0,0,0,0,0,0,0,0⟩
def fromW:Str:=[102,114,111,109]
def toW:Str:=[116,111]
def protoW:Str:=[112,114,111,116,111]
def sportsW:Str:=[115,112,111,114,116,115]
def dportsW:Str:=[100,112,111,114,116,115]
def opt2 (c:Bool) (w v:Str):Str:=if c=true then [32] ++ w ++ [32] ++ v else []
def cF (r:Rl):Bool:=decide (r.sb ≠ 0)
def cT (r:Rl):Bool:=decide (r.db ≠ 0)
def cP (r:Rl):Bool:=decide (r.proto ≠ -1)
def cS (r:Rl):Bool:=decide (r.sl ≠ 0∨r.sh ≠ 65535)
def cD (r:Rl):Bool:=decide (r.dl ≠ 0∨r.dh ≠ 65535)
def X8q (r:Rl):Str:=opt2 (cF r) fromW (X1o r.sa r.sb) ++ opt2 (cT r) toW (X1o r.da r.db) ++ opt2 (cP r) protoW (itoa r.proto) ++ opt2 (cS r) sportsW (X17 r.sl r.sh) ++ opt2 (cD r) dportsW (X17 r.dl r.dh)
theorem X92 (a:Nat) (b:Int) (ha:a < 4294967296) (hb:X7c b=true):(X1o a b).length ≤ 110:=by
 have h1:=X56 a ha
 have h2:=Sh.itoa_len b hb
 unfold X1o
 simp only [List.length_append,List.length_cons,List.length_nil] at h1 ⊢
 omega
theorem X9g (a b:Nat) (ha:a < 4294967296) (hb:b < 4294967296):(X17 a b).length ≤ 41:=by
 have h1:=X2l a (by omega)
 have h2:=X2l b (by omega)
 unfold X17
 simp only [List.length_append,List.length_cons,List.length_nil]
 omega
end Go.Ab
namespace Go.Ab.Sh
open Go Go.Ab Go.Lib
theorem X9p (c:Bool) (w v:Str):(opt2 c w v).length ≤ w.length + v.length + 2:=by
 unfold opt2
 cases c <;> simp; omega
end Go.Ab.Sh

set_option maxRecDepth 100000
namespace Go.Ab
open Go Go.Lib Go.Ab.Sh
theorem SL.atk {m:Mem} {v:Value} {ws:List Str} (h:SL m v ws) (k:IntKind) {i:Nat} {w:Str} (hw:ws[i]?=some w):∃ p,X5 1 v (.int k (i:Int))=some p∧X4 false 1 p m=some (sv w):=by
 obtain ⟨p,h1,h2⟩:=h.at hw
 refine ⟨p,?_,h2⟩
 obtain ⟨b,o,r,c,fro,ro,ty,rfl,_⟩:=h
 rw [← h1,X11,X11]
 rfl
theorem SL.frn {m m':Mem} {v:Value} {ws:List Str} (h:SL m v ws) (f:Fr [] m m'):SL m' v ws:=h.fr f (by simp)
structure QOk (q:QN):Prop where
 kind:q.kind < 256
 dev:q.dev.length ≤ 4194304
 ifc:q.ifc.length ≤ 4194304
 vrf:q.vrf.length ≤ 4194304
 en:q.en < 256
 r:RlOk q.r
 a:q.a < 4294967296
 b:q.b < 4294967296
 p:q.p ≤ 255
 m:q.m ≤ 65535
 n:q.n ≤ 65535
 hops:X7c q.hops=true
 ad:q.ad < 4294967296
theorem QOk.hb {q:QN} (h:QOk q):HB q.a q.b q.p q.m q.n:=⟨h.a,h.b,h.p,h.m,h.n⟩
def writeT (q:QN):Str:=match kindsL[q.kind - 1]? with
 | none=>[]
 | some w=>if q.kind < 1 then [] else
  if q.kind ≤ 2 then (if q.en < 1 then [] else match endsL[q.en - 1]? with
   | none=>[]
   | some e=>w ++ [32] ++ q.dev ++ [32] ++ q.ifc ++ [32] ++ e ++ X8q q.r)
  else if q.kind=3 then w ++ [32] ++ q.dev ++ [32] ++ q.ifc ++ X8q q.r
  else if q.kind=4 then w ++ [32] ++ q.dev ++ [32] ++ q.ifc ++ [32] ++ itoa q.hops ++ [32] ++ X3x q.a q.b q.p q.m q.n
  else if q.kind ≤ 6 then (if q.vrf ≠ [] then w ++ [32] ++ q.dev ++ [32,118,114,102,32] ++ q.vrf else w ++ [32] ++ q.dev)
  else w ++ [32] ++ X1z q.ad
theorem Xpt (r:Rl) (h:RlOk r):(X8q r).length ≤ 1000:=by
 have f1:=X92 r.sa r.sb h.sa h.sb
 have f2:=X92 r.da r.db h.da h.db
 have f3:=itoa_len r.proto h.proto
 have f4:=X9g r.sl r.sh h.sl h.sh
 have f5:=X9g r.dl r.dh h.dl h.dh
 have g1:=X9p (cF r) fromW (X1o r.sa r.sb)
 have g2:=X9p (cT r) toW (X1o r.da r.db)
 have g3:=X9p (cP r) protoW (itoa r.proto)
 have g4:=X9p (cS r) sportsW (X17 r.sl r.sh)
 have g5:=X9p (cD r) dportsW (X17 r.dl r.dh)
 have w1:fromW.length=4:=rfl
 have w2:toW.length=2:=rfl
 have w3:protoW.length=5:=rfl
 have w4:sportsW.length=6:=rfl
 have w5:dportsW.length=6:=rfl
 unfold X8q
 simp only [List.length_append]
 omega
theorem Xp3:∀ w ∈ kindsL,w.length ≤ 6:=by decide
theorem Xuj:∀ w ∈ endsL,w.length ≤ 10:=by decide
end Go.Ab
namespace Go.Ab.Sh
open Go Go.Ab Go.Lib
theorem Xsj (a b p m n:Nat) (mm:Mem):again (pur (some (hdr a b p m n)) mm) (hdr a b p m n)=true:=by
 show vsame 8 (hdr a b p m n) (hdr a b p m n)=true
 simp [vsame,vsame.vsames]
end Go.Ab.Sh

set_option maxRecDepth 100000
namespace Go.Ab
open Go Go.Lib Go.Ab.Sh
theorem X5x {W:List Nat} {m0 m:Mem} (F:Fr W m0 m) {b o n:Nat} {cs cs':List Value} {ty:Option Nat} (h:m.get b=some (.cells cs 0 0 false ty)) (v:Value) (hn:v.cells.size=n) (h1:v.cells.toList.all one=true) (ho:o + n ≤ cs.length) (hc:cs.take o ++ v.cells.toList ++ cs.drop (o + n)=cs') (hB:b ∈ W∨m0.next ≤ b) :
  ∃ m',X8 n (pt b o 0) v m=some m'∧Fr W m0 m'∧m'.next=m.next∧m'.get b=some (.cells cs' 0 0 false ty)∧∀ c,c ≠ b→m'.get c=m.get c:=by
 obtain ⟨m',k1,k2⟩:=X3f (o:=o) (n:=n) (v:=v) h hn (Nat.zero_le _) ho h1 hc
 exact ⟨m',k1,(F.put _ hB).meq k2,by rw [k2.next,Mem.next_put],by rw [k2.get,Mem.get_put,if_pos rfl],fun c hc=>by rw [k2.get,Mem.get_put,if_neg (fun e=>hc e.symm)]⟩
theorem Xda {W:List Nat} {m m1:Mem} {v:Value} {x:Option Rs} (hx:x=some (v,m1)) (hF:Fr W (X3 m m.next) m1) :
  ∃ m2,outOf m x=some (v,m2)∧Fr W m m2∧m2.next ≤ m1.next∧(∀ b,b < m.next→m2.get b=m1.get b):=by
 obtain ⟨m2,k1,k2,k3,k4⟩:=Fr.call v hF
 exact ⟨m2,by rw [hx]; simp only [outOf,k1],k2,k3,k4⟩
end Go.Ab
namespace Go.Ab.Sh
open Go Go.Ab Go.Lib
end Go.Ab.Sh

set_option maxRecDepth 100000
namespace Go.Ab
open Go Go.Lib Go.Ab.Sh
def qnV:Option QN→Value
 | some q=>.tuple ⟨[qV q,I 0]⟩
 | none=>.tuple ⟨[qV q0,I 4]⟩
theorem Xvn (n:Nat) (o:Option QN):refs n 8 (qnV o)=true:=by cases o <;> rfl
end Go.Ab

set_option maxRecDepth 100000
namespace Go.Ab
open Go Go.Lib Go.Ab.Sh
theorem Fr.toFbW {B:Nat} {W:List Nat} {m m1:Mem} (h:Fr W m m1) (hW:∀ w ∈ W,B ≤ w) (hB:B ≤ m.next):Fb B m m1 where
 next:=h.next
 low:=h.low
 low2:=fun x a b=>h.low2 x a (Nat.le_trans b hB) (fun w hw=>Nat.le_trans b (hW w hw))
 get:=fun b hb=>h.get b (Nat.lt_of_lt_of_le hb hB) (fun hw=>by have:=hW b hw; omega)
 lo:=fun b hb=>h.lo b hb
end Go.Ab
namespace Go.Ab.Sh
open Go Go.Ab Go.Lib
variable {mW:Mem} {v:Value} {ws:List Str} {b2 b5:Nat} {m:Mem} {q:QN}
end Go.Ab.Sh

set_option maxRecDepth 100000
namespace Go.Ab
open Go Go.Lib Go.Ab.Sh
def vrfW:Str:=[118,114,102]
theorem getD_at {ws:List Str} {i:Nat} (h:i < ws.length):ws[i]?=some (ws.getD i []):=by
 rw [List.getD_eq_getElem?_getD,List.getElem?_eq_getElem h]; rfl
end Go.Ab
namespace Go.Ab.Sh
open Go Go.Ab Go.Lib
variable {mW:Mem} {v:Value} {ws:List Str} {b2 b5:Nat} {m:Mem} {q:QN}
end Go.Ab.Sh

set_option maxRecDepth 100000
namespace Go.Ab
open Go Go.Lib Go.Ab.Sh
theorem prefP_iff {s:Str} {a b:Nat}:X2v s=(a,b,0) ↔ s=X1o a (b:Nat)∧a < 4294967296∧b ≤ 32∧a % 2 ^ (32 - b)=0:=by
 constructor
 ·intro h
  unfold X2v at h
  split at h
  ·cases h
  ·rename_i x y hc
   split at h
   ·rename_i a' b' h1 h2
    split at h
    ·rename_i h3
     cases h
     obtain ⟨rfl,q1⟩:=addrP_iff.mp h1
     obtain ⟨rfl,q2⟩:=num_some.mp h2
     obtain ⟨rfl,_⟩:=Xdq hc
     refine ⟨?_,q1,q2,h3⟩
     unfold X1o
     rw [X3d]
     simp
    ·cases h
   ·cases h
 ·rintro ⟨rfl,h1,h2,h3⟩
  unfold X2v X1o
  rw [X3d,show X1z a ++ [47] ++ decDigits b=X1z a ++ 47 :: decDigits b by simp,Xd5 _ (X6v a 47 (by decide) (by decide))]
  simp only [addrP_iff.mpr ⟨rfl,h1⟩,X5r h2]
  rw [if_pos h3]
theorem portsP_iff {s:Str} {a b:Nat}:X21 s=some (a,b) ↔ s=X17 a b∧a ≤ b∧b ≤ 65535∧b - a < 65535:=by
 constructor
 ·intro h
  unfold X21 at h
  split at h
  ·cases h
  ·rename_i x y hc
   split at h
   ·rename_i h1 h2
    split at h
    ·rename_i h3
     cases h
     obtain ⟨rfl,q1⟩:=num_some.mp h1
     obtain ⟨rfl,q2⟩:=num_some.mp h2
     obtain ⟨rfl,_⟩:=Xdq hc
     exact ⟨by unfold X17; simp,h3.1,q2,h3.2⟩
    ·cases h
   ·cases h
 ·rintro ⟨rfl,h1,h2,h3⟩
  unfold X21 X17
  rw [show decDigits a ++ [45] ++ decDigits b=decDigits a ++ 45 :: decDigits b by simp,Xd5 _ (X37 a 45 (by decide))]
  simp only [X5r (show a ≤ 65535 by omega),X5r h2]
  rw [if_pos ⟨h1,h3⟩]
structure GoodR (r:Rl):Prop where
 permit:r.permit=true
 proto:r.proto=-1∨(0 ≤ r.proto∧r.proto ≤ 255)
 sb:0 ≤ r.sb∧r.sb ≤ 32
 sa:r.sa < 4294967296
 sm:r.sa % 2 ^ (32 - r.sb.toNat)=0
 db:0 ≤ r.db∧r.db ≤ 32
 da:r.da < 4294967296
 dm:r.da % 2 ^ (32 - r.db.toNat)=0
 s1:r.sl ≤ r.sh
 s2:r.sh ≤ 65535
 d1:r.dl ≤ r.dh
 d2:r.dh ≤ 65535
theorem GoodR.ok {r:Rl} (h:GoodR r):RlOk r where
 proto:=by
  rcases h.proto with e | ⟨e1,e2⟩
  ·rw [e]; decide
  ·obtain ⟨n,hn⟩:=Int.eq_ofNat_of_zero_le e1
   rw [hn]; exact X50 (by omega)
 sa:=h.sa
 sb:=by
  obtain ⟨n,hn⟩:=Int.eq_ofNat_of_zero_le h.sb.1
  have:=h.sb.2
  rw [hn]; exact X50 (by omega)
 da:=h.da
 db:=by
  obtain ⟨n,hn⟩:=Int.eq_ofNat_of_zero_le h.db.1
  have:=h.db.2
  rw [hn]; exact X50 (by omega)
 sl:=by have:=h.s1; have:=h.s2; omega
 sh:=by have:=h.s2; omega
 dl:=by have:=h.d1; have:=h.d2; omega
 dh:=by have:=h.d2; omega
def optW (c:Bool) (w v:Str):List Str:=if c=true then [w,v] else []
def X20 (r:Rl):List Str:=optW (cF r) fromW (X1o r.sa r.sb) ++ optW (cT r) toW (X1o r.da r.db) ++ optW (cP r) protoW (itoa r.proto) ++ optW (cS r) sportsW (X17 r.sl r.sh) ++ optW (cD r) dportsW (X17 r.dl r.dh)
theorem Xa3 (c:UInt8) (w:Str):∀ (l:List Str),l ≠ []→Xz [c] (l ++ [w])=Xz [c] l ++ [c] ++ w
 | [],h=>absurd rfl h
 | [a],_=>by simp [Xz,List.intercalate,List.intersperse]
 | a :: b :: l,_=>by
  have e:∀ (x:List Str),x ≠ []→Xz [c] (a :: x)=a ++ c :: Xz [c] x:=by
   intro x hx
   cases x with
   | nil=>exact absurd rfl hx
   | cons y x=>simp [Xz,List.intercalate,List.intersperse]
  rw [List.cons_append,e _ (by simp),e _ (by simp),Xa3 c w (b :: l) (by simp)]
  simp
theorem X6i (l:List Str) (hl:l ≠ []) (c:Bool) (w v:Str):Xz [32] (l ++ optW c w v)=Xz [32] l ++ opt2 c w v:=by
 unfold optW opt2
 cases c with
 | false=>simp
 | true =>
  rw [if_pos rfl,if_pos rfl,show l ++ [w,v]=(l ++ [w]) ++ [v] by simp,Xa3 _ _ _ (by simp),Xa3 _ _ _ hl]
  simp
theorem Xd4 (l:List Str) (hl:l ≠ []) (r:Rl):Xz [32] (l ++ X20 r)=Xz [32] l ++ X8q r:=by
 have ne:∀ x:List Str,l ++ x ≠ []:=fun x e=>hl (List.append_eq_nil_iff.mp e).1
 unfold X20 X8q
 simp only [← List.append_assoc]
 rw [X6i _ (by simp [hl]),X6i _ (by simp [hl]),X6i _ (by simp [hl]),X6i _ (by simp [hl]),X6i _ hl]
end Go.Ab

set_option maxRecDepth 100000
namespace Go.Ab
open Go Go.Lib Go.Ab.Sh
theorem mod0 {a:Nat} {b:Int} (ha:a < 4294967296) (hb:b=0) (hm:a % 2 ^ (32 - b.toNat)=0):a=0:=by
 subst hb
 have:(2:Nat) ^ (32 - (0:Int).toNat)=4294967296:=by decide
 rw [this] at hm
 omega
theorem Xp8 {a:Nat} {b:Int} (ha:a < 4294967296) (hb:0 ≤ b∧b ≤ 32) (hm:a % 2 ^ (32 - b.toNat)=0):X2v (X1o a b)=(a,b.toNat,0):=by
 obtain ⟨n,rfl⟩:=Int.eq_ofNat_of_zero_le hb.1
 exact prefP_iff.mpr ⟨rfl,ha,by have:=hb.2; show n ≤ 32; omega,hm⟩
theorem X3y {s:Str} (h:X1b s=true):(32:UInt8) ∉ s:=by
 unfold X1b at h
 split at h
 ·cases h
 ·rename_i a r
  simp only [Bool.and_eq_true,List.all_eq_true] at h
  intro hm
  rcases List.mem_cons.mp hm with e | e
  ·rw [← e] at h; exact absurd h.2.1 (by decide)
  ·exact absurd (h.2.2 _ e) (by decide)
theorem X3g {s:Str} (h:X1b s=true):s.length ≤ 32:=by
 unfold X1b at h
 split at h
 ·cases h
 ·simp only [Bool.and_eq_true] at h
  exact of_decide_eq_true h.1
theorem Xhg {s:Str} (h:X1b s=true):s ≠ []:=by
 intro e; subst e; cases h
theorem Xgz {z:Int} (h:0 ≤ z):(32:UInt8) ∉ itoa z:=by
 obtain ⟨n,rfl⟩:=Int.eq_ofNat_of_zero_le h
 show 32 ∉ itoa ((n:Nat):Int)
 rw [X3d]
 exact X37 n 32 d32
theorem Xjl {a:Nat} {b:Int} (h:0 ≤ b):(32:UInt8) ∉ X1o a b:=by
 have h1:=X6v a 32 d32 (by decide)
 have h2:=Xgz h
 unfold X1o
 intro hm
 rcases List.mem_append.mp hm with e | e
 ·rcases List.mem_append.mp e with e | e
  ·exact h1 e
  ·exact absurd e (by decide)
 ·exact h2 e
theorem Xih (a b:Nat):(32:UInt8) ∉ X17 a b:=by
 unfold X17
 intro hm
 rcases List.mem_append.mp hm with e | e
 ·rcases List.mem_append.mp e with e | e
  ·exact X37 a 32 d32 e
  ·exact absurd e (by decide)
 ·exact X37 b 32 d32 e
theorem X9k {c:Bool} {w v:Str} (hw:(32:UInt8) ∉ w) (hv:c=true→(32:UInt8) ∉ v):∀ x ∈ optW c w v,(32:UInt8) ∉ x:=by
 intro x hx
 cases c with
 | false=>cases hx
 | true =>
  have hx:x ∈ [w,v]:=hx
  simp only [List.mem_cons,List.not_mem_nil,or_false] at hx
  rcases hx with rfl | rfl
  ·exact hw
  ·exact hv rfl
theorem Xet {r:Rl} (h:GoodR r):∀ x ∈ X20 r,(32:UInt8) ∉ x:=by
 intro x hx
 unfold X20 at hx
 simp only [List.mem_append] at hx
 rcases hx with (((hx | hx) | hx) | hx) | hx
 ·exact X9k (by decide) (fun _=>Xjl h.sb.1) x hx
 ·exact X9k (by decide) (fun _=>Xjl h.db.1) x hx
 ·refine X9k (by decide) (fun hc=>?_) x hx
  unfold cP at hc
  rcases h.proto with e | e
  ·exact absurd e (of_decide_eq_true hc)
  ·exact Xgz e.1
 ·exact X9k (by decide) (fun _=>Xih _ _) x hx
 ·exact X9k (by decide) (fun _=>Xih _ _) x hx
inductive GoodQ:QN→Prop where
 | way (k:Nat) (dev ifc:Str) (en:Nat) (r:Rl):(k=1∨k=2)→X1b dev=true→X1b ifc=true→1 ≤ en→en ≤ 7→GoodR r→GoodQ { q0 with kind:=k,dev:=dev,ifc:=ifc,en:=en,r:=r }
 | loop (dev ifc:Str) (r:Rl):X1b dev=true→X1b ifc=true→GoodR r→GoodQ { q0 with kind:=3,dev:=dev,ifc:=ifc,r:=r }
 | trace (dev ifc:Str) (hops a b p m n:Nat):X1b dev=true→X1b ifc=true→hops ≤ 255→HB a b p m n→GoodQ { q0 with kind:=4,dev:=dev,ifc:=ifc,hops:=(hops:Nat),a:=a,b:=b,p:=p,m:=m,n:=n }
 | table (k:Nat) (dev:Str):(k=5∨k=6)→X1b dev=true→GoodQ { q0 with kind:=k,dev:=dev }
 | tableV (k:Nat) (dev vrf:Str):(k=5∨k=6)→X1b dev=true→X1b vrf=true→GoodQ { q0 with kind:=k,dev:=dev,vrf:=vrf }
 | owner (ad:Nat):ad < 4294967296→GoodQ { q0 with kind:=7,ad:=ad }
end Go.Ab

set_option maxRecDepth 100000
namespace Go.Ab
open Go Go.Lib Go.Ab.Sh
def X1h (k:Nat):Str:=kindsL.getD (k - 1) []
def endW (e:Nat):Str:=endsL.getD (e - 1) []
theorem Xhl {k:Nat} (h1:1 ≤ k) (h7:k ≤ 7):kindsL[k - 1]?=some (X1h k):=by
 have hl:kindsL.length=7:=rfl
 exact getD_at (by omega)
theorem Xz8 {k:Nat} (h1:1 ≤ k) (h7:k ≤ 7):endsL[k - 1]?=some (endW k):=by
 have hl:endsL.length=7:=rfl
 exact getD_at (by omega)
theorem Xwf:∀ k,k < 7→posG 0 kindsL (X1h (k + 1))=k + 1∧(32:UInt8) ∉ X1h (k + 1):=by decide
theorem Xyb:∀ k,k < 7→posG 0 endsL (endW (k + 1))=k + 1∧(32:UInt8) ∉ endW (k + 1):=by decide
theorem kpos {k:Nat} (h1:1 ≤ k) (h7:k ≤ 7):posG 0 kindsL (X1h k)=k∧(32:UInt8) ∉ X1h k:=by
 obtain ⟨j,rfl⟩:∃ j,k=j + 1:=⟨k - 1,by omega⟩
 exact Xwf j (by omega)
theorem epos {k:Nat} (h1:1 ≤ k) (h7:k ≤ 7):posG 0 endsL (endW k)=k∧(32:UInt8) ∉ endW k:=by
 obtain ⟨j,rfl⟩:∃ j,k=j + 1:=⟨k - 1,by omega⟩
 exact Xyb j (by omega)
def X1s (q:QN):List Str:=
 if q.kind ≤ 2 then [X1h q.kind,q.dev,q.ifc,endW q.en] ++ X20 q.r
 else if q.kind=3 then [X1h q.kind,q.dev,q.ifc] ++ X20 q.r
 else if q.kind=4 then [X1h q.kind,q.dev,q.ifc,itoa q.hops,endT q.a q.m,endT q.b q.n,decDigits q.p]
 else if q.kind ≤ 6 then (if q.vrf ≠ [] then [X1h q.kind,q.dev,vrfW,q.vrf] else [X1h q.kind,q.dev])
 else [X1h q.kind,X1z q.ad]
theorem X6o {q:QN} (h:GoodQ q):split 32 (writeT q)=X1s q:=by
 refine split_eq_iff.mpr ?_
 cases h with
 | way k dev ifc en r hk hd hi e1 e7 hr =>
  have hk1:k ≤ 2:=by omega
  have hw:X1s { q0 with kind:=k,dev:=dev,ifc:=ifc,en:=en,r:=r }=[X1h k,dev,ifc,endW en] ++ X20 r:=by unfold X1s; rw [if_pos hk1]
  have hT:writeT { q0 with kind:=k,dev:=dev,ifc:=ifc,en:=en,r:=r }=X1h k ++ [32] ++ dev ++ [32] ++ ifc ++ [32] ++ endW en ++ X8q r:=by
   unfold writeT
   simp only [Xhl (show 1 ≤ k by omega) (by omega),Xz8 e1 e7]
   rw [if_neg (by omega),if_pos hk1,if_neg (by omega)]
  rw [hw,hT]
  refine ⟨by simp,?_,?_⟩
  ·rw [Xd4 _ (by simp)]
   simp [Xz,List.intercalate,List.intersperse]
  ·intro w hm
   simp only [List.mem_append,List.mem_cons,List.not_mem_nil,or_false] at hm
   rcases hm with (rfl | rfl | rfl | rfl) | hm
   ·exact (kpos (by omega) (by omega)).2
   ·exact X3y hd
   ·exact X3y hi
   ·exact (epos e1 e7).2
   ·exact Xet hr w hm
 | loop dev ifc r hd hi hr =>
  have hw:X1s { q0 with kind:=3,dev:=dev,ifc:=ifc,r:=r }=[X1h 3,dev,ifc] ++ X20 r:=rfl
  have hT:writeT { q0 with kind:=3,dev:=dev,ifc:=ifc,r:=r }=X1h 3 ++ [32] ++ dev ++ [32] ++ ifc ++ X8q r:=rfl
  rw [hw,hT]
  refine ⟨by simp,?_,?_⟩
  ·rw [Xd4 _ (by simp)]
   simp [Xz,List.intercalate,List.intersperse]
  ·intro w hm
   simp only [List.mem_append,List.mem_cons,List.not_mem_nil,or_false] at hm
   rcases hm with (rfl | rfl | rfl) | hm
   ·exact (kpos (by omega) (by omega)).2
   ·exact X3y hd
   ·exact X3y hi
   ·exact Xet hr w hm
 | trace dev ifc hops a b p m n hd hi hh hb =>
  have hw:X1s { q0 with kind:=4,dev:=dev,ifc:=ifc,hops:=(hops:Nat),a:=a,b:=b,p:=p,m:=m,n:=n }=[X1h 4,dev,ifc,itoa (hops:Nat),endT a m,endT b n,decDigits p]:=rfl
  have hT:writeT { q0 with kind:=4,dev:=dev,ifc:=ifc,hops:=(hops:Nat),a:=a,b:=b,p:=p,m:=m,n:=n }=X1h 4 ++ [32] ++ dev ++ [32] ++ ifc ++ [32] ++ itoa (hops:Nat) ++ [32] ++ X3x a b p m n:=rfl
  rw [hw,hT]
  refine ⟨by simp,?_,?_⟩
  ·unfold X3x
   simp [Xz,List.intercalate,List.intersperse]
  ·intro w hm
   simp only [List.mem_cons,List.not_mem_nil,or_false] at hm
   rcases hm with rfl | rfl | rfl | rfl | rfl | rfl | rfl
   ·exact (kpos (by omega) (by omega)).2
   ·exact X3y hd
   ·exact X3y hi
   ·exact Xgz (by omega)
   ·exact X73 a m
   ·exact X73 b n
   ·exact X37 p 32 d32
 | table k dev hk hd =>
  have hw:X1s { q0 with kind:=k,dev:=dev }=[X1h k,dev]:=by
   unfold X1s
   rw [if_neg (show ¬ k ≤ 2 by omega),if_neg (show ¬ k=3 by omega),if_neg (show ¬ k=4 by omega),if_pos (show k ≤ 6 by omega)]
   rfl
  have hT:writeT { q0 with kind:=k,dev:=dev }=X1h k ++ [32] ++ dev:=by
   unfold writeT
   simp only [Xhl (show 1 ≤ k by omega) (by omega)]
   rw [if_neg (by omega),if_neg (by omega),if_neg (by omega),if_neg (by omega),if_pos (by omega)]
   rfl
  rw [hw,hT]
  refine ⟨by simp,?_,?_⟩
  ·simp [Xz,List.intercalate,List.intersperse]
  ·intro w hm
   simp only [List.mem_cons,List.not_mem_nil,or_false] at hm
   rcases hm with rfl | rfl
   ·exact (kpos (by omega) (by omega)).2
   ·exact X3y hd
 | tableV k dev vrf hk hd hv =>
  have hne:=Xhg hv
  have hw:X1s { q0 with kind:=k,dev:=dev,vrf:=vrf }=[X1h k,dev,vrfW,vrf]:=by
   unfold X1s
   rw [if_neg (show ¬ k ≤ 2 by omega),if_neg (show ¬ k=3 by omega),if_neg (show ¬ k=4 by omega),if_pos (show k ≤ 6 by omega),if_pos hne]
  have hT:writeT { q0 with kind:=k,dev:=dev,vrf:=vrf }=X1h k ++ [32] ++ dev ++ [32,118,114,102,32] ++ vrf:=by
   unfold writeT
   simp only [Xhl (show 1 ≤ k by omega) (by omega)]
   rw [if_neg (by omega),if_neg (by omega),if_neg (by omega),if_neg (by omega),if_pos (by omega),if_pos hne]
  rw [hw,hT]
  refine ⟨by simp,?_,?_⟩
  ·simp [Xz,List.intercalate,List.intersperse,vrfW]
  ·intro w hm
   simp only [List.mem_cons,List.not_mem_nil,or_false] at hm
   rcases hm with rfl | rfl | rfl | rfl
   ·exact (kpos (by omega) (by omega)).2
   ·exact X3y hd
   ·decide
   ·exact X3y hv
 | owner ad ha =>
  have hw:X1s { q0 with kind:=7,ad:=ad }=[X1h 7,X1z ad]:=rfl
  have hT:writeT { q0 with kind:=7,ad:=ad }=X1h 7 ++ [32] ++ X1z ad:=rfl
  rw [hw,hT]
  refine ⟨by simp,?_,?_⟩
  ·simp [Xz,List.intercalate,List.intersperse]
  ·intro w hm
   simp only [List.mem_cons,List.not_mem_nil,or_false] at hm
   rcases hm with rfl | rfl
   ·exact (kpos (by omega) (by omega)).2
   ·exact X6v ad 32 d32 (by decide)
end Go.Ab

set_option maxRecDepth 100000
namespace Go.Ab.Sh
open Go Go.Ab Go.Lib
noncomputable abbrev tyR:Option Nat:=some (2 * Qzl + 1)
noncomputable abbrev tyB:Option Nat:=some (2 * Q1eo + 1)
noncomputable abbrev tyW:Option Nat:=some (2 * Qrw + 1)
noncomputable abbrev tyI:Option Nat:=some (2 * Qjb + 1)
noncomputable abbrev fW (bR bB:Nat):Value:=.func (.func Qan) ⟨[]⟩ ⟨[pt bR 0 0,pt bB 0 0]⟩
noncomputable abbrev fN (bW bB:Nat):Value:=.func (.func Qfl) ⟨[]⟩ ⟨[pt bW 0 0,pt bB 0 0]⟩
noncomputable abbrev fI (bR:Nat):Value:=.func (.func Qao) ⟨[]⟩ ⟨[pt bR 0 0]⟩
noncomputable abbrev fP (bI bW bB:Nat):Value:=.func (.func Qfm) ⟨[]⟩ ⟨[pt bI 0 0,pt bW 0 0,pt bB 0 0]⟩
structure AS (mW:Mem) (bR bB bW bI:Nat) (m:Mem) (ws:List Str) (bad:Bool):Prop where
 nx:mW.next ≤ m.next
 gt:∀ b,b < mW.next→m.get b=mW.get b
 gR:∃ v,SL mW v ws∧m.get bR=some (.cells [v] 0 0 false tyR)
 gB:m.get bB=some (.cells [.bool bad] 0 0 false tyB)
 gW:m.get bW=some (.cells [fW bR bB] 0 0 false tyW)
 gI:m.get bI=some (.cells [fI bR] 0 0 false tyI)
 hw:∀ w ∈ ws,w.length ≤ 4194304
 lR:mW.next ≤ bR
 lB:mW.next ≤ bB
 lW:mW.next ≤ bW
 lI:mW.next ≤ bI
 nR:bR < m.next
 nB:bB < m.next
 nW:bW < m.next
 nI:bI < m.next
 rb:bR ≠ bB
 wr:bW ≠ bR
 wb:bW ≠ bB
 ir:bI ≠ bR
 ib:bI ≠ bB
variable {mW:Mem} {bR bB bW bI:Nat} {m:Mem} {ws:List Str} {bad:Bool}
theorem SL.up {mW m:Mem} {v:Value} {ws:List Str} (h:SL mW v ws) (hn:mW.next ≤ m.next) (hg:∀ b,b < mW.next→m.get b=mW.get b):SL m v ws:=by
 obtain ⟨b,o,r,c,fro,ro,ty,h1,h2,h3,h4,h5⟩:=h
 exact ⟨b,o,r,c,fro,ro,ty,h1,Nat.lt_of_lt_of_le h2 hn,by rw [hg b h2]; exact h3,h4,h5⟩
theorem AS.frW {W:List Nat} {m':Mem} (h:AS mW bR bB bW bI m ws bad) (f:Fr W m m') (hW:∀ w ∈ W,mW.next ≤ w∧w ≠ bR∧w ≠ bB∧w ≠ bW∧w ≠ bI):AS mW bR bB bW bI m' ws bad:=by
 have n:=f.next
 have hx:=h.nx
 obtain ⟨v,g1,g2⟩:=h.gR
 have ni:∀ b,(b < mW.next∨b=bR∨b=bB∨b=bW∨b=bI)→b ∉ W:=by
  intro b hb hm
  have:=hW b hm
  rcases hb with e | e | e | e | e
  ·omega
  ·exact this.2.1 e
  ·exact this.2.2.1 e
  ·exact this.2.2.2.1 e
  ·exact this.2.2.2.2 e
 exact { h with
  nx:=by omega
  gt:=fun b hb=>by rw [f.get b (by omega) (ni b (.inl hb))]; exact h.gt b hb
  gR:=⟨v,g1,by rw [f.get _ h.nR (ni _ (by simp))]; exact g2⟩
  gB:=by rw [f.get _ h.nB (ni _ (by simp))]; exact h.gB
  gW:=by rw [f.get _ h.nW (ni _ (by simp))]; exact h.gW
  gI:=by rw [f.get _ h.nI (ni _ (by simp))]; exact h.gI
  nR:=Nat.lt_of_lt_of_le h.nR n
  nB:=Nat.lt_of_lt_of_le h.nB n
  nW:=Nat.lt_of_lt_of_le h.nW n
  nI:=Nat.lt_of_lt_of_le h.nI n }
theorem AS.wl (h:AS mW bR bB bW bI m ws bad):AS mW bR bB bW bI (X3 m m.next) ws bad:={ h with }
theorem AS.out {m1 m2:Mem} {ws':List Str} {bad':Bool} (h:AS mW bR bB bW bI m ws bad) (k:AS mW bR bB bW bI m1 ws' bad') (q2:m.next ≤ m2.next) (q4:∀ b,b < m.next→m2.get b=m1.get b):AS mW bR bB bW bI m2 ws' bad':=by
 have hx:=h.nx
 obtain ⟨v,g1,g2⟩:=k.gR
 exact { k with
  nx:=by omega
  gt:=fun b hb=>by rw [q4 b (by omega)]; exact k.gt b hb
  gR:=⟨v,g1,by rw [q4 _ h.nR]; exact g2⟩
  gB:=by rw [q4 _ h.nB]; exact k.gB
  gW:=by rw [q4 _ h.nW]; exact k.gW
  gI:=by rw [q4 _ h.nI]; exact k.gI
  nR:=Nat.lt_of_lt_of_le h.nR q2
  nB:=Nat.lt_of_lt_of_le h.nB q2
  nW:=Nat.lt_of_lt_of_le h.nW q2
  nI:=Nat.lt_of_lt_of_le h.nI q2 }
theorem AS.setB {m0:Mem} (h:AS mW bR bB bW bI m ws bad) (F:Fr [bR,bB] m0 m) (c:Bool) :
  ∃ m',X8 1 (pt bB 0 0) (.bool c) m=some m'∧AS mW bR bB bW bI m' ws c∧Fr [bR,bB] m0 m'∧m'.next=m.next∧Fr [bB] m m':=by
 obtain ⟨m',k1,k2,k3,k4,k5⟩:=X5x (o:=0) (n:=1) (cs':=[.bool c]) F h.gB (.bool c) rfl rfl (by show 1 ≤ 1; omega) rfl (.inl (by simp))
 obtain ⟨m'',j1,j2,j3,j4,j5⟩:=X5x (W:=[bB]) (o:=0) (n:=1) (cs':=[.bool c]) (Fr.refl _ m) h.gB (.bool c) rfl rfl (by show 1 ≤ 1; omega) rfl (.inl (by simp))
 obtain rfl:m'=m'':=Option.some.inj (k1.symm.trans j1)
 obtain ⟨v,g1,g2⟩:=h.gR
 have hlB:=h.lB
 refine ⟨m',k1,?_,k2,k3,j2⟩
 exact { h with
  nx:=by rw [k3]; exact h.nx
  gt:=fun b hb=>by rw [k5 b (by omega)]; exact h.gt b hb
  gR:=⟨v,g1,by rw [k5 _ h.rb]; exact g2⟩
  gB:=k4
  gW:=by rw [k5 _ h.wb]; exact h.gW
  gI:=by rw [k5 _ h.ib]; exact h.gI
  nR:=by rw [k3]; exact h.nR
  nB:=by rw [k3]; exact h.nB
  nW:=by rw [k3]; exact h.nW
  nI:=by rw [k3]; exact h.nI }
theorem Xne {v:Value} {ws:List Str} (h:SL m v ws):v.cells=#[v]∧one v=true:=by
 obtain ⟨b,o,r,c,fro,ro,ty,rfl,_⟩:=h
 exact ⟨rfl,rfl⟩
theorem AS.setR {m0:Mem} {ws':List Str} {v':Value} (h:AS mW bR bB bW bI m ws bad) (F:Fr [bR,bB] m0 m) (hv:SL mW v' ws') (hw':∀ w ∈ ws',w.length ≤ 4194304) :
  ∃ m',X8 1 (pt bR 0 0) v' m=some m'∧AS mW bR bB bW bI m' ws' bad∧Fr [bR,bB] m0 m'∧m'.next=m.next:=by
 obtain ⟨c1,c2⟩:=Xne hv
 obtain ⟨v,g1,g2⟩:=h.gR
 obtain ⟨m',k1,k2,k3,k4,k5⟩:=X5x (o:=0) (n:=1) (cs':=[v']) F g2 v' (by rw [c1]; rfl) (by rw [c1]; simp [c2]) (by show 1 ≤ 1; omega) (by rw [c1]; rfl) (.inl (by simp))
 have hlR:=h.lR
 refine ⟨m',k1,?_,k2,k3⟩
 exact { h with
  nx:=by rw [k3]; exact h.nx
  gt:=fun b hb=>by rw [k5 b (by omega)]; exact h.gt b hb
  gR:=⟨v',hv,k4⟩
  gB:=by rw [k5 _ (fun e=>h.rb e.symm)]; exact h.gB
  gW:=by rw [k5 _ h.wr]; exact h.gW
  gI:=by rw [k5 _ h.ir]; exact h.gI
  hw:=hw'
  nR:=by rw [k3]; exact h.nR
  nB:=by rw [k3]; exact h.nB
  nW:=by rw [k3]; exact h.nW
  nI:=by rw [k3]; exact h.nI }
theorem c_word (h:AS mW bR bB bW bI m ws bad) (d:Nat):∃ m',TA (d + 1) Qan [pt bR 0 0,pt bB 0 0] m=some (sv (ws.headD []),m')∧Fr [bR,bB] m m'∧AS mW bR bB bW bI m' ws.tail (bad || ws.isEmpty):=by
 have go:∃ m1,Q7r ⟨TA d,18446744073709551616⟩ (pt bR 0 0) (pt bB 0 0) (X3 m m.next)=some (sv (ws.headD []),m1)∧Fr [bR,bB] (X3 m m.next) m1∧AS mW bR bB bW bI m1 ws.tail (bad || ws.isEmpty):=by
  have k:=h.wl
  generalize X3 m m.next=m0 at k
  obtain ⟨v,g1,g2⟩:=k.gR
  have hs:SL m0 v ws:=SL.up g1 k.nx k.gt
  have ld:X4 false 1 (pt bR 0 0) m0=some v:=Xt g2 rfl
  unfold Q7r
  simp only [ld,X7,hs.len,Q5z,Xj]
  cases ws with
  | nil =>
   obtain ⟨m1,s1,s2,s3,_⟩:=k.setB (Fr.refl _ m0) true
   rw [if_pos (by rfl)]
   refine ⟨m1,?_,s3,?_⟩
   ·simp only [s1,Xg]
    rfl
   ·cases bad <;> exact s2
  | cons w ws =>
   rw [if_neg (by simp; omega)]
   obtain ⟨p,p1,p2⟩:=hs.at (i:=0) (w:=w) rfl
   have p1:X5 1 v (.int .i64 0)=some p:=p1
   obtain ⟨v',t1,t2⟩:=SL.tail g1
   have t1:X2g 1 v (some (.int .i64 1)) none=some v':=t1
   obtain ⟨m1,s1,s2,s3,_⟩:=k.setR (Fr.refl _ m0) t2 (fun x hx=>k.hw x (List.mem_cons_of_mem _ hx))
   refine ⟨m1,?_,s3,?_⟩
   ·simp only [p1,p2,X7,ld,t1,s1,Xg]
    rfl
   ·cases bad <;> exact s2
 obtain ⟨m1,k1,k2,k3⟩:=go
 rw [Xh9]
 obtain ⟨m2,q1,q2,_,q4⟩:=Xda (m:=m) k1 k2
 exact ⟨m2,q1,q2,h.out k3 q2.next q4⟩
theorem c_name (h:AS mW bR bB bW bI m ws bad) (d:Nat):∃ m',TA (d + 5) Qfl [pt bW 0 0,pt bB 0 0] m=some (sv (ws.headD []),m')∧Fr [bR,bB] m m'∧AS mW bR bB bW bI m' ws.tail (bad || ws.isEmpty || !X1b (ws.headD [])):=by
 have go:∃ m1,Q7s ⟨TA (d + 4),18446744073709551616⟩ (pt bW 0 0) (pt bB 0 0) (X3 m m.next)=some (sv (ws.headD []),m1)∧Fr [bR,bB] (X3 m m.next) m1∧AS mW bR bB bW bI m1 ws.tail (bad || ws.isEmpty || !X1b (ws.headD [])):=by
  have k:=h.wl
  generalize X3 m m.next=m0 at k
  have ld:X4 false 1 (pt bW 0 0) m0=some (fW bR bB):=Xt k.gW rfl
  obtain ⟨m1,w1,w2,w3⟩:=c_word k (d + 3)
  have w1:Xi (TA (d + 4)) (fW bR bB) [] m0=some (sv (ws.headD []),m1):=w1
  have ldb:X4 false 1 (pt bB 0 0) m1=some (.bool (bad || ws.isEmpty)):=Xt w3.gB rfl
  have un:∀ c:Bool,un .not (.bool c)=some (.bool !c):=fun c=>by cases c <;> exact Eq.trans rfl rfl
  have hl:(ws.headD []).length ≤ 4194304:=by
   cases ws with
   | nil=>simp
   | cons w ws=>exact h.hw w (by simp)
  unfold Q7s Qnl Qnk Qhd
  simp only [ld,X7,w1,X9,ldb]
  cases hb:(bad || ws.isEmpty) with
  | true =>
   obtain ⟨m2,s1,s2,s3,_⟩:=w3.setB w2 true
   refine ⟨m2,?_,s3,?_⟩
   ·simp only [Xh,s1,Xg]
   ·exact s2
  | false =>
   have n1:TA (d + 4) Qn1 [sv (ws.headD [])] m1=_:=c_lexName (ws.headD []) hl d m1
   obtain ⟨m2,s1,s2,s3,_⟩:=w3.setB w2 (!X1b (ws.headD []))
   refine ⟨m2,?_,s3,?_⟩
   ·simp only [Xd,n1,X9,un,X7,s1,Xg]
   ·exact s2
 obtain ⟨m1,k1,k2,k3⟩:=go
 rw [Xfk]
 obtain ⟨m2,q1,q2,_,q4⟩:=Xda (m:=m) k1 k2
 exact ⟨m2,q1,q2,h.out k3 q2.next q4⟩
theorem c_is (h:AS mW bR bB bW bI m ws bad) (x:Str) (d:Nat):∃ m',TA (d + 1) Qao [sv x,pt bR 0 0] m=some (.bool (decide (ws.head?=some x)),m')∧Fr [bR,bB] m m'∧AS mW bR bB bW bI m' (if ws.head?=some x then ws.tail else ws) bad:=by
 have go:∃ m1,Q7t ⟨TA d,18446744073709551616⟩ (pt bR 0 0) (sv x) (X3 m m.next)=some (.bool (decide (ws.head?=some x)),m1)∧Fr [bR,bB] (X3 m m.next) m1∧AS mW bR bB bW bI m1 (if ws.head?=some x then ws.tail else ws) bad:=by
  have k:=h.wl
  generalize X3 m m.next=m0 at k
  obtain ⟨v,g1,g2⟩:=k.gR
  have hs:SL m0 v ws:=SL.up g1 k.nx k.gt
  have ld:X4 false 1 (pt bR 0 0) m0=some v:=Xt g2 rfl
  unfold Q7t Qnn Qhe
  simp only [ld,X7,hs.len,Q5z,Xj,Xh]
  cases ws with
  | nil =>
   rw [if_pos (by rfl)]
   exact ⟨m0,rfl,.refl _ _,by rw [if_neg (by simp)]; exact k⟩
  | cons w ws =>
   rw [if_neg (by simp; omega)]
   obtain ⟨p,p1,p2⟩:=hs.at (i:=0) (w:=w) rfl
   have p1:X5 1 v (.int .i64 0)=some p:=p1
   simp only [p1,p2,X7,Q13n,Xj]
   by_cases hw:w=x
   ·rw [if_neg (by simpa using hw)]
    obtain ⟨v',t1,t2⟩:=SL.tail g1
    have t1:X2g 1 v (some (.int .i64 1)) none=some v':=t1
    obtain ⟨m1,s1,s2,s3,_⟩:=k.setR (Fr.refl _ m0) t2 (fun x hx=>k.hw x (List.mem_cons_of_mem _ hx))
    refine ⟨m1,?_,s3,?_⟩
    ·simp only [ld,t1,X7,s1,Xg]
     subst hw
     simp
    ·rw [if_pos (by subst hw; rfl)]
     exact s2
   ·rw [if_pos hw]
    have hne:¬ (w :: ws).head?=some x:=by simpa using hw
    refine ⟨m0,?_,.refl _ _,by rw [if_neg hne]; exact k⟩
    rw [decide_eq_false hne]
 obtain ⟨m1,k1,k2,k3⟩:=go
 rw [Xgr]
 obtain ⟨m2,q1,q2,_,q4⟩:=Xda (m:=m) k1 k2
 exact ⟨m2,q1,q2,h.out k3 q2.next q4⟩
end Go.Ab.Sh

set_option maxRecDepth 100000
namespace Go.Ab.Sh
open Go Go.Ab Go.Lib
variable {mW:Mem} {bR bB bW bI:Nat} {m:Mem} {ws:List Str} {bad:Bool}
theorem AS.putO {m0:Mem} {ws0:List Str} {bad0:Bool} (k:AS mW bR bB bW bI m0 ws0 bad0) (h:AS mW bR bB bW bI m ws bad) (F:Fr [bR,bB] m0 m) {b o n:Nat} {cs cs':List Value} {ty:Option Nat} (hg:m.get b=some (.cells cs 0 0 false ty)) (v:Value) (hn:v.cells.size=n) (h1:v.cells.toList.all one=true) (ho:o + n ≤ cs.length) (hc:cs.take o ++ v.cells.toList ++ cs.drop (o + n)=cs') (hb:m0.next ≤ b) :
  ∃ m',X8 n (pt b o 0) v m=some m'∧AS mW bR bB bW bI m' ws bad∧Fr [bR,bB] m0 m'∧m'.next=m.next∧m'.get b=some (.cells cs' 0 0 false ty)∧∀ c,c ≠ b→m'.get c=m.get c:=by
 obtain ⟨m',k1,k2,k3,k4,k5⟩:=X5x (o:=o) F hg v hn h1 ho hc (.inr hb)
 obtain ⟨u,g1,g2⟩:=h.gR
 have e1:=k.nR
 have e2:=k.nB
 have e3:=k.nW
 have e4:=k.nI
 have e5:=k.nx
 refine ⟨m',k1,?_,k2,k3,k4,k5⟩
 exact { h with
  nx:=by rw [k3]; exact h.nx
  gt:=fun c hc=>by rw [k5 c (by omega)]; exact h.gt c hc
  gR:=⟨u,g1,by rw [k5 _ (by omega)]; exact g2⟩
  gB:=by rw [k5 _ (by omega)]; exact h.gB
  gW:=by rw [k5 _ (by omega)]; exact h.gW
  gI:=by rw [k5 _ (by omega)]; exact h.gI
  nR:=by rw [k3]; exact h.nR
  nB:=by rw [k3]; exact h.nB
  nW:=by rw [k3]; exact h.nW
  nI:=by rw [k3]; exact h.nI }
def prfS (x:Str) (ws:List Str) (bad:Bool):Nat × Nat × List Str × Bool:=
 if ws.head?=some x then ((X2v (ws.tail.headD [])).1,(X2v (ws.tail.headD [])).2.1,ws.tail.tail,bad || ws.tail.isEmpty || decide ((X2v (ws.tail.headD [])).2.2 ≠ 0) || decide ((X2v (ws.tail.headD [])).2.1=0))
 else (0,0,ws,bad)
theorem X4y (h:∀ w ∈ ws,w.length ≤ 4194304):(ws.headD []).length ≤ 4194304:=by
 cases ws with
 | nil=>simp
 | cons w ws=>exact h w (by simp)
theorem c_prefix (h:AS mW bR bB bW bI m ws bad) (x:Str) (d:Nat):∃ m',TA (d + 6) Qfm [sv x,pt bI 0 0,pt bW 0 0,pt bB 0 0] m=some (pfx (prfS x ws bad).1 ((prfS x ws bad).2.1:Nat),m')∧Fr [bR,bB] m m'∧AS mW bR bB bW bI m' (prfS x ws bad).2.2.1 (prfS x ws bad).2.2.2:=by
 have go:∃ m1,Q7u ⟨TA (d + 5),18446744073709551616⟩ (pt bI 0 0) (sv x) (pt bW 0 0) (pt bB 0 0) (X3 m m.next)=some (pfx (prfS x ws bad).1 ((prfS x ws bad).2.1:Nat),m1)∧Fr [bR,bB] (X3 m m.next) m1∧AS mW bR bB bW bI m1 (prfS x ws bad).2.2.1 (prfS x ws bad).2.2.2:=by
  have k:=h.wl
  generalize X3 m m.next=m0 at k
  have zp:Qh=[.int .u32 0,I 0]:=rfl
  let m1:=m0.push (.cells Qh 0 0 false (some (2 * Q7 + 1)))
  have g5:m1.get m0.next=some (.cells Qh 0 0 false (some (2 * Q7 + 1))):=X1e m0 _
  have F1:Fr [bR,bB] m0 m1:=Fr.push _
  have k1:AS mW bR bB bW bI m1 ws bad:=k.frW (W:=[]) (Fr.push _) (by simp)
  have n1:m1.next=m0.next + 1:=rfl
  have r1:=k.nR
  have r2:=k.nB
  have ld:X4 false 1 (pt bI 0 0) (m0.push (.cells Qh 0 0 false (some (2 * Q7 + 1))))=some (fI bR):=Xt k1.gI rfl
  obtain ⟨m2,w1,w2,w3⟩:=c_is k1 x (d + 4)
  have w1:Xi (TA (d + 5)) (fI bR) [sv x] (m0.push (.cells Qh 0 0 false (some (2 * Q7 + 1))))=some (.bool (decide (ws.head?=some x)),m2):=w1
  have F2:=F1.trans w2
  have n2:=w2.next
  have g5':m2.get m0.next=some (.cells Qh 0 0 false (some (2 * Q7 + 1))):=by rw [w2.get _ (by omega) (by simp; omega)]; exact g5
  -- the end of it
  have ret:∀ (mm:Mem) (a:Nat) (b b6:Nat) (wz:List Str) (bd:Bool),AS mW bR bB bW bI mm wz bd→Fr [bR,bB] m0 mm→m0.next < mm.next→mm.get m0.next=some (.cells Qh 0 0 false (some (2 * Q7 + 1)))→mm.get b6=some (.cells [.int .u32 (a:Int),I (b:Nat)] 0 0 false (some (2 * Q7 + 1)))→∃ m9,Q5d ⟨TA (d + 5),18446744073709551616⟩ (pt b6 0 0) (pt m0.next 0 0) mm=some (pfx a (b:Nat),m9)∧Fr [bR,bB] m0 m9∧AS mW bR bB bW bI m9 wz bd:=by
   intro mm a b b6 wz bd hA hF hn hg5 hg6
   have l6:X4 true 2 (pt b6 0 0) mm=some (pfx a (b:Nat)):=X10 hg6 (by show 2 ≤ 2; omega) rfl
   obtain ⟨m9,s1,s2,s3,s4,s5,_⟩:=AS.putO k hA hF hg5 (o:=0) (n:=2) (pfx a (b:Nat)) rfl rfl (by show 2 ≤ 2; omega) rfl (Nat.le_refl _)
   have l5:X4 true 2 (pt m0.next 0 0) m9=some (pfx a (b:Nat)):=X10 s5 (by show 2 ≤ 2; omega) rfl
   refine ⟨m9,?_,s3,s2⟩
   unfold Q5d
   simp only [l6,X7,s1,Xg,l5,Xq5]
   rfl
  unfold Q7u Qnp
  rw [X13]
  simp only [ld,X7,w1,X9]
  unfold Qno
  rw [Xj]
  by_cases hx:ws.head?=some x
  ·rw [if_pos hx] at w3 ⊢
   have hS:prfS x ws bad=((X2v (ws.tail.headD [])).1,(X2v (ws.tail.headD [])).2.1,ws.tail.tail,bad || ws.tail.isEmpty || decide ((X2v (ws.tail.headD [])).2.2 ≠ 0) || decide ((X2v (ws.tail.headD [])).2.1=0)):=by unfold prfS; rw [if_pos hx]
   rw [hS]
   have ldw:X4 false 1 (pt bW 0 0) m2=some (fW bR bB):=Xt w3.gW rfl
   obtain ⟨m3,y1,y2,y3⟩:=c_word w3 (d + 4)
   have y1:Xi (TA (d + 5)) (fW bR bB) [] m2=some (sv (ws.tail.headD []),m3):=y1
   have n3:=y2.next
   have F3:=F2.trans y2
   have g53:m3.get m0.next=some (.cells Qh 0 0 false (some (2 * Q7 + 1))):=by rw [y2.get _ (by omega) (by simp; omega)]; exact g5'
   have cP:TA (d + 5) Q4p [sv (ws.tail.headD [])] m3=_:=c_addrPrefix (ws.tail.headD []) (X4y w3.hw) d m3
   generalize hpp:X2v (ws.tail.headD [])=P at *
   obtain ⟨a,b,e⟩:=P
   -- the prefix's own variable
   have k4:AS mW bR bB bW bI (m3.push (.cells Qh 0 0 false (some (2 * Q7 + 1)))) ws.tail.tail (bad || ws.tail.isEmpty):=y3.frW (W:=[]) (Fr.push _) (by simp)
   obtain ⟨m5,s1,s2,s3,s4,s5,s6⟩:=AS.putO k k4 (F3.trans (Fr.push _)) (X1e m3 _) (o:=0) (n:=2) (pfx a (b:Nat)) rfl rfl (by show 2 ≤ 2; omega) rfl (by omega)
   have nn5:m5.next=m3.next + 1:=s4
   have g55:m5.get m0.next=some (.cells Qh 0 0 false (some (2 * Q7 + 1))):=by rw [s6 _ (by omega),Mem.get_push,if_neg (by omega)]; exact g53
   have ldb:X4 false 1 (pt bB 0 0) m5=some (.bool (bad || ws.tail.isEmpty)):=Xt s2.gB rfl
   have ld61:X4 false 1 (pt m3.next (0 + 1) 0) m5=some (I (b:Nat)):=Xt s5 rfl
   have setb:∀ c:Bool,∃ m6,X8 1 (pt bB 0 0) (.bool c) m5=some m6∧∃ m9,Q5d ⟨TA (d + 5),18446744073709551616⟩ (pt m3.next 0 0) (pt m0.next 0 0) m6=some (pfx a (b:Nat),m9)∧Fr [bR,bB] m0 m9∧AS mW bR bB bW bI m9 ws.tail.tail c:=by
    intro c
    obtain ⟨m6,t1,t2,t3,t4,t5⟩:=s2.setB s3 c
    exact ⟨m6,t1,ret m6 a b m3.next _ _ t2 t3 (by omega) (by rw [t5.get _ (by omega) (by simp; omega)]; exact g55) (by rw [t5.get _ (by omega) (by simp; omega)]; exact s5)⟩
   have hsimp:∀ X:Mem→Prop,(∃ m1,Qb6 ⟨TA (d + 5),18446744073709551616⟩ (pt bB 0 0) (I (e:Nat)) (pt m3.next 0 0) (pt m0.next 0 0) m5=some (pfx a (b:Nat),m1)∧X m1)→∃ m1,(bp (pur (X4 false 1 (pt bW 0 0) m2) m2) fun x6 m =>
 bp (Xi (TA (d + 5)) x6 [] m) fun x7 m =>
 bp (TA (d + 5) Q4p [x7] m) fun x8 m =>
 bp (pur (X6 x8 0) m) fun x9 m =>
 bp (pur (X6 x8 1) m) fun x10 m =>
 bp (some (aNew Q7 Qh m)) fun x11 m =>
 bp (unt (X8 2 x11 x9 m)) fun _ m =>
 Qb6 ⟨TA (d + 5),18446744073709551616⟩ (pt bB 0 0) x10 x11 (pt m0.next 0 0) m)=some (pfx a (b:Nat),m1)∧X m1:=by
    intro X ⟨m1,x1,x2⟩
    refine ⟨m1,?_,x2⟩
    simp only [ldw,X7,y1,X9,cP,Xzm,ex0,ex1]
    rw [X13]
    simp only [s1,Xg]
    exact x1
   refine hsimp (fun m1=>Fr [bR,bB] m0 m1∧AS mW bR bB bW bI m1 ws.tail.tail (bad || ws.tail.isEmpty || decide (e ≠ 0) || decide (b=0))) ?_
   unfold Qb6
   simp only [ldb,X7,Q8k,Xy,ld61,Q5z,Xj]
   cases hb:(bad || ws.tail.isEmpty) with
   | true =>
    obtain ⟨m6,t1,m9,t2,t3,t4⟩:=setb true
    refine ⟨m9,?_,t3,?_⟩
    ·simp only [Xh,t1,Xg]
     exact t2
    ·simpa using t4
   | false =>
    rw [Xd]
    by_cases he:e=0
    ·rw [if_neg (by simpa using he)]
     obtain ⟨m6,t1,m9,t2,t3,t4⟩:=setb (decide (((b:Nat):Int)=0))
     refine ⟨m9,?_,t3,?_⟩
     ·simp only [t1,Xg]
      exact t2
     ·have:(false || decide (e ≠ 0) || decide (b=0))=decide (((b:Nat):Int)=0):=by
       subst he
       by_cases hb0:b=0
       ·subst hb0; rfl
       ·rw [decide_eq_false hb0,decide_eq_false (by omega:¬ ((b:Nat):Int)=0)]; rfl
      rw [this]
      exact t4
    ·rw [if_pos (by simpa using he)]
     obtain ⟨m6,t1,m9,t2,t3,t4⟩:=setb true
     refine ⟨m9,?_,t3,?_⟩
     ·simp only [t1,Xg]
      exact t2
     ·have:(false || decide (e ≠ 0) || decide (b=0))=true:=by rw [decide_eq_true he]; simp
      rw [this]
      exact t4
  ·rw [if_neg hx] at w3 ⊢
   have hS:prfS x ws bad=(0,0,ws,bad):=by unfold prfS; rw [if_neg hx]
   rw [hS]
   have l5:X4 true 2 (pt m0.next 0 0) m2=some (pfx ((0:Nat):Int) ((0:Nat):Int)):=X10 g5' (by show 2 ≤ 2; omega) rfl
   obtain ⟨m9,s1,s2,s3,s4,s5,_⟩:=AS.putO k w3 F2 g5' (o:=0) (n:=2) (pfx ((0:Nat):Int) ((0:Nat):Int)) rfl rfl (by show 2 ≤ 2; omega) rfl (Nat.le_refl _)
   have l5':X4 true 2 (pt m0.next 0 0) m9=some (pfx ((0:Nat):Int) ((0:Nat):Int)):=X10 s5 (by show 2 ≤ 2; omega) rfl
   refine ⟨m9,?_,s3,s2⟩
   simp only [l5,X7,s1,Xg,l5',Xq5]
   rfl
 obtain ⟨m1,k1,k2,k3⟩:=go
 rw [Xfr]
 obtain ⟨m2,q1,q2,_,q4⟩:=Xda (m:=m) k1 k2
 exact ⟨m2,q1,q2,h.out k3 q2.next q4⟩
end Go.Ab.Sh

set_option maxRecDepth 100000
namespace Go.Ab.Sh
open Go Go.Ab Go.Lib
noncomputable abbrev tyA:Option Nat:=some (2 * Qy + 1)
structure PA (mW:Mem) (b2 bR bB bW bI bQ:Nat) (m:Mem) (ws:List Str) (bad dead:Bool) (q:QN):Prop where
 a:AS mW bR bB bW bI m ws bad
 g2:m.get b2=some (.cells Qc 0 0 false tyA)
 gQ:∃ cs,m.get bQ=some (.cells cs 0 0 false tyA)∧cs.length=22∧(dead=false→cs=qC q)
 w2:b2 < mW.next
 wQ:mW.next ≤ bQ
 nQ:bQ < m.next
 q1:bQ ≠ bR
 q2:bQ ≠ bB
 q3:bQ ≠ bW
 q4:bQ ≠ bI
variable {mW:Mem} {b2 bR bB bW bI bQ:Nat} {m:Mem} {ws:List Str} {bad dead:Bool} {q:QN}
theorem PA.step {m':Mem} {ws':List Str} {bad':Bool} (h:PA mW b2 bR bB bW bI bQ m ws bad dead q) (f:Fr [bR,bB] m m') (k:AS mW bR bB bW bI m' ws' bad'):PA mW b2 bR bB bW bI bQ m' ws' bad' dead q∧Fb b2 m m':=by
 have e1:=h.a.lR
 have e2:=h.a.lB
 have e3:=h.w2
 have e4:=h.a.nx
 have e5:=h.q1
 have e6:=h.q2
 obtain ⟨cs,g1,g2,g3⟩:=h.gQ
 refine ⟨{ a:=k,g2:=by rw [f.get _ (by omega) (by simp; omega)]; exact h.g2,gQ:=⟨cs,by rw [f.get _ h.nQ (by simp; omega)]; exact g1,g2,g3⟩,w2:=h.w2,wQ:=h.wQ,nQ:=Nat.lt_of_lt_of_le h.nQ f.next,q1:=h.q1,q2:=h.q2,q3:=h.q3,q4:=h.q4 },f.toFbW (by simp; omega) (by omega)⟩
theorem PA.word (h:PA mW b2 bR bB bW bI bQ m ws bad dead q) (d:Nat):∃ m',Xi (TA (d + 6)) (fW bR bB) [] m=some (sv (ws.headD []),m')∧PA mW b2 bR bB bW bI bQ m' ws.tail (bad || ws.isEmpty) dead q∧Fb b2 m m':=by
 obtain ⟨m',k1,k2,k3⟩:=c_word h.a (d + 5)
 exact ⟨m',k1,h.step k2 k3⟩
theorem PA.name (h:PA mW b2 bR bB bW bI bQ m ws bad dead q) (d:Nat):∃ m',Xi (TA (d + 6)) (fN bW bB) [] m=some (sv (ws.headD []),m')∧PA mW b2 bR bB bW bI bQ m' ws.tail (bad || ws.isEmpty || !X1b (ws.headD [])) dead q∧Fb b2 m m':=by
 obtain ⟨m',k1,k2,k3⟩:=c_name h.a (d + 1)
 exact ⟨m',k1,h.step k2 k3⟩
theorem PA.is (h:PA mW b2 bR bB bW bI bQ m ws bad dead q) (x:Str) (d:Nat):∃ m',Xi (TA (d + 6)) (fI bR) [sv x] m=some (.bool (decide (ws.head?=some x)),m')∧PA mW b2 bR bB bW bI bQ m' (if ws.head?=some x then ws.tail else ws) bad dead q∧Fb b2 m m':=by
 obtain ⟨m',k1,k2,k3⟩:=c_is h.a x (d + 5)
 exact ⟨m',k1,h.step k2 k3⟩
theorem PA.prefix' (h:PA mW b2 bR bB bW bI bQ m ws bad dead q) (x:Str) (d:Nat):∃ m',Xi (TA (d + 6)) (fP bI bW bB) [sv x] m=some (pfx (prfS x ws bad).1 ((prfS x ws bad).2.1:Nat),m')∧PA mW b2 bR bB bW bI bQ m' (prfS x ws bad).2.2.1 (prfS x ws bad).2.2.2 dead q∧Fb b2 m m':=by
 obtain ⟨m',k1,k2,k3⟩:=c_prefix h.a x d
 exact ⟨m',k1,h.step k2 k3⟩
theorem PA.frn {m':Mem} (h:PA mW b2 bR bB bW bI bQ m ws bad dead q) (f:Fr [] m m'):PA mW b2 bR bB bW bI bQ m' ws bad dead q∧Fb b2 m m':=by
 obtain ⟨k1,k2⟩:=h.step (f.mono (by simp)) (h.a.frW f (by simp))
 exact ⟨k1,k2⟩
theorem PA.setB (h:PA mW b2 bR bB bW bI bQ m ws bad dead q) (c:Bool):∃ m',X8 1 (pt bB 0 0) (.bool c) m=some m'∧PA mW b2 bR bB bW bI bQ m' ws c dead q∧Fb b2 m m':=by
 obtain ⟨m',k1,k2,k3,_,_⟩:=h.a.setB (Fr.refl _ m) c
 exact ⟨m',k1,h.step k3 k2⟩
theorem PA.put (h:PA mW b2 bR bB bW bI bQ m ws bad dead q) (dead':Bool) (q':QN) (o n:Nat) (x:Value) (hn:x.cells.size=n) (h1:x.cells.toList.all one=true) (ho:o + n ≤ 22) (hc:dead'=false→dead=false∧(qC q).take o ++ x.cells.toList ++ (qC q).drop (o + n)=qC q') :
  ∃ m',X8 n (pt bQ o 0) x m=some m'∧PA mW b2 bR bB bW bI bQ m' ws bad dead' q'∧Fb b2 m m':=by
 obtain ⟨cs,g1,g2,g3⟩:=h.gQ
 obtain ⟨m',k1,k2,k3,k4,k5⟩:=X5x (W:=[bQ]) (o:=o) (Fr.refl _ m) g1 x hn h1 (by omega) rfl (.inl (by simp))
 have e1:=h.wQ
 have e2:=h.w2
 have e3:=h.a.nx
 have u1:=h.q1
 have u2:=h.q2
 have u3:=h.q3
 have u4:=h.q4
 refine ⟨m',k1,{ a:=h.a.frW k2 (by simp; omega),g2:=by rw [k5 _ (by omega)]; exact h.g2,gQ:=⟨_,k4,?_,?_⟩,w2:=h.w2,wQ:=h.wQ,nQ:=by rw [k3]; exact h.nQ,q1:=h.q1,q2:=h.q2,q3:=h.q3,q4:=h.q4 },k2.toFbW (by simp; omega) (by omega)⟩
 ·have:x.cells.toList.length=n:=by rw [Array.length_toList]; exact hn
  simp only [List.length_append,List.length_take,List.length_drop]
  omega
 ·intro hd
  obtain ⟨a1,a2⟩:=hc hd
  rw [g3 a1]
  exact a2
theorem PA.ldB (h:PA mW b2 bR bB bW bI bQ m ws bad dead q):X4 false 1 (pt bB 0 0) m=some (.bool bad):=Xt h.a.gB rfl
theorem PA.ldW (h:PA mW b2 bR bB bW bI bQ m ws bad dead q):X4 false 1 (pt bW 0 0) m=some (fW bR bB):=Xt h.a.gW rfl
theorem PA.ldI (h:PA mW b2 bR bB bW bI bQ m ws bad dead q):X4 false 1 (pt bI 0 0) m=some (fI bR):=Xt h.a.gI rfl
def A7 (ws:List Str) (q:QN):Option QN:=if ws=[] then some q else none
def A15 (ws:List Str) (q:QN):Option QN:=if ws.head?=some dportsW then (match X21 (ws.tail.headD []) with | none=>none | some (a,b)=>A7 ws.tail.tail { q with r:={ q.r with dl:=a,dh:=b } }) else A7 ws q
def A14 (ws:List Str) (q:QN):Option QN:=if ws.head?=some sportsW then (match X21 (ws.tail.headD []) with | none=>none | some (a,b)=>A15 ws.tail.tail { q with r:={ q.r with sl:=a,sh:=b } }) else A15 ws q
def A13 (ws:List Str) (q:QN):Option QN:=if ws.head?=some protoW then (match num 255 (ws.tail.headD []) with | none=>none | some n=>A14 ws.tail.tail { q with r:={ q.r with proto:=(n:Nat) } }) else A14 ws q
def resA (bad:Bool) (o:Option QN):Option QN:=if bad=true then none else o
theorem aBa (z:Value):X18 Qc [(0,1),(1,1),(2,1),(3,1),(4,1),(5,10),(15,5),(20,1),(21,1)] []=some (qV q0):=Eq.trans rfl rfl
theorem ask8 (G:Gt) (h:PA mW b2 bR bB bW bI bQ m ws bad dead q) (c:Bool) (hd:c=false→dead=false):∃ m',Q7p G (.bool c) (pt b2 0 0) (pt bQ 0 0) m=some (qnV (if c=true then none else some q),m')∧Fb b2 m m':=by
 unfold Q7p
 cases c with
 | true =>
  obtain ⟨m',k1,k2,_⟩:=X2j (n:=22) (tail:=[.int .i64 4]) (vs:=qC q0) h.g2 rfl rfl rfl (Nat.le_refl b2)
  refine ⟨m',?_,k2⟩
  rw [Xh,aBa undef,X7]
  exact k1
 | false =>
  obtain ⟨cs,g1,g2,g3⟩:=h.gQ
  have:=g3 (hd rfl)
  subst this
  obtain ⟨m',k1,k2,_⟩:=X2j (n:=22) (tail:=[.int .i64 0]) (vs:=qC q) h.g2 rfl rfl rfl (Nat.le_refl b2)
  refine ⟨m',?_,k2⟩
  have hl:X4 true 22 (pt bQ 0 0) m=some (qV q):=X10 g1 (by show 22 ≤ 22; omega) rfl
  rw [Xd,hl,X7]
  exact k1
theorem ask7 (G:Gt) (h:PA mW b2 bR bB bW bI bQ m ws bad bad q):∃ m',Qi G (pt bB 0 0) (pt bR 0 0) (pt b2 0 0) (pt bQ 0 0) m=some (qnV (resA bad (A7 ws q)),m')∧Fb b2 m m':=by
 unfold Qi resA
 rw [h.ldB,X7]
 cases bad with
 | true =>
  rw [Xh,if_pos rfl]
  exact ask8 G h true (fun x=>by cases x)
 | false =>
  obtain ⟨v,g1,g2⟩:=h.a.gR
  have hs:SL m v ws:=SL.up g1 h.a.nx h.a.gt
  have ld:X4 false 1 (pt bR 0 0) m=some v:=Xt g2 rfl
  rw [Xd,if_neg (by decide)]
  simp only [ld,X7,hs.len,Qwd]
  obtain ⟨m',k1,k2⟩:=ask8 G h (decide ((0:Int) < (ws.length:Int))) (fun _=>rfl)
  refine ⟨m',?_,k2⟩
  have:(if decide ((0:Int) < (ws.length:Int))=true then none else some q)=A7 ws q:=by
   unfold A7
   cases ws with
   | nil=>rfl
   | cons w ws=>rw [if_pos (by simp),if_neg (by simp)]
  rw [this] at k1
  exact k1
theorem Xnw {o:Option (Nat × Nat)} {ws:List Str} (h:X21 (ws.headD [])=o) (he:ws.isEmpty=true):o=none:=by
 cases ws with
 | nil=>exact h.symm
 | cons w ws=>cases he
theorem X2o (c:Bool):un .not (.bool c)=some (.bool !c):=by cases c <;> exact Eq.trans rfl rfl
theorem X100 (d:Nat) (h:PA mW b2 bR bB bW bI bQ m ws bad bad q):∃ m',Q28 ⟨TA (d + 6),18446744073709551616⟩ (pt bI 0 0) (pt bW 0 0) (pt bB 0 0) (pt bQ 0 0) (pt bR 0 0) (pt b2 0 0) m=some (qnV (resA bad (A15 ws q)),m')∧Fb b2 m m':=by
 have ex:Value.string ⟨#[100,112,111,114,116,115]⟩=sv dportsW:=rfl
 obtain ⟨m1,k1,k2,k3⟩:=h.is dportsW d
 unfold Q28
 simp only [ex,h.ldI,X7,k1,X9,Xj]
 by_cases hx:ws.head?=some dportsW
 ·rw [if_pos hx] at k2 ⊢
  have hA:A15 ws q=match X21 (ws.tail.headD []) with | none=>none | some (a,b)=>A7 ws.tail.tail { q with r:={ q.r with dl:=a,dh:=b } }:=by unfold A15; rw [if_pos hx]
  obtain ⟨m2,y1,y2,y3⟩:=k2.word d
  have hl:=X4y k2.a.hw
  obtain ⟨lo,hi,c1,c2⟩:=c_ports (ws.tail.headD []) hl (d + 3) m2
  have c1:TA (d + 6) Q6o [sv (ws.tail.headD [])] m2=_:=c1
  obtain ⟨m3,s1,s2,s3,s4⟩:=X16 [] m2 (some (2 * Qu + 1)) Qv (v:=X1k lo hi) (n:=2) rfl rfl rfl
  have s1:X8 2 (pt m2.next 0 0) (X1k lo hi) (m2.push (.cells Qv 0 0 false (some (2 * Qu + 1))))=some m3:=s1
  have lds:X4 true 2 (pt m2.next 0 0) m3=some (X1k lo hi):=X10 s4 (by show 2 ≤ 2; omega) rfl
  obtain ⟨p3,f3⟩:=y2.frn s2
  have hgo:∀ (X:Mem→Prop) (R:Value),(∃ m',(brb (.bool (bad || ws.tail.isEmpty))
  (bp (pur (X0 5 (pt bQ 0 0)) m3) fun x16 m =>
 bp (pur (X0 8 x16) m) fun x17 m =>
 bp (unt (X8 2 x17 (X1k lo hi) m)) fun _ m =>
 bp (unt (X8 1 (pt bB 0 0) (.bool true) m)) fun _ m =>
 Qi ⟨TA (d + 6),18446744073709551616⟩ (pt bB 0 0) (pt bR 0 0) (pt b2 0 0) (pt bQ 0 0) m)
  (bp (pur (un .not (.bool (X21 (ws.tail.headD [])).isSome)) m3) fun x18 m =>
 bp (pur (X0 5 (pt bQ 0 0)) m) fun x19 m =>
 bp (pur (X0 8 x19) m) fun x20 m =>
 bp (unt (X8 2 x20 (X1k lo hi) m)) fun _ m =>
 bp (unt (X8 1 (pt bB 0 0) x18 m)) fun _ m =>
 Qi ⟨TA (d + 6),18446744073709551616⟩ (pt bB 0 0) (pt bR 0 0) (pt b2 0 0) (pt bQ 0 0) m))=some (R,m')∧X m')→∃ m',(bp (pur (X4 false 1 (pt bW 0 0) m1) m1) fun x8 m =>
 bp (Xi (TA (d + 6)) x8 [] m) fun x9 m =>
 bp (TA (d + 6) Q6o [x9] m) fun x10 m =>
 bp (pur (X6 x10 0) m) fun x11 m =>
 bp (pur (X6 x10 1) m) fun x12 m =>
 bp (some (aNew Qu Qv m)) fun x13 m =>
 bp (unt (X8 2 x13 x11 m)) fun _ m =>
 bp (pur (X4 true 2 x13 m) m) fun x14 m =>
 bp (pur (X4 false 1 (pt bB 0 0) m) m) fun x15 m =>
 brb x15
  (bp (pur (X0 5 (pt bQ 0 0)) m) fun x16 m =>
 bp (pur (X0 8 x16) m) fun x17 m =>
 bp (unt (X8 2 x17 x14 m)) fun _ m =>
 bp (unt (X8 1 (pt bB 0 0) (.bool true) m)) fun _ m =>
 Qi ⟨TA (d + 6),18446744073709551616⟩ (pt bB 0 0) (pt bR 0 0) (pt b2 0 0) (pt bQ 0 0) m)
  (bp (pur (un .not x12) m) fun x18 m =>
 bp (pur (X0 5 (pt bQ 0 0)) m) fun x19 m =>
 bp (pur (X0 8 x19) m) fun x20 m =>
 bp (unt (X8 2 x20 x14 m)) fun _ m =>
 bp (unt (X8 1 (pt bB 0 0) x18 m)) fun _ m =>
 Qi ⟨TA (d + 6),18446744073709551616⟩ (pt bB 0 0) (pt bR 0 0) (pt b2 0 0) (pt bQ 0 0) m))=some (R,m')∧X m':=by
   intro X R ⟨m',r1,r2⟩
   refine ⟨m',?_,r2⟩
   rw [k2.ldW,X7,y1,X9,c1,X9,ex0,X7,ex1,X7,X13]
   rw [s1,Xg,lds,X7,p3.ldB,X7]
   exact r1
  refine hgo _ _ ?_
  have F3:Fb b2 m m3:=(k3.trans y3).trans f3
  have lose:∀ c:Bool,∃ m4 m5,X8 2 (pt bQ (0 + 5 + 8) 0) (X1k lo hi) m3=some m4∧X8 1 (pt bB 0 0) (.bool true) m4=some m5∧PA mW b2 bR bB bW bI bQ m5 ws.tail.tail true true q∧Fb b2 m3 m5:=by
   intro c
   obtain ⟨m4,t1,t2,t3⟩:=p3.put true q 13 2 (X1k lo hi) rfl rfl (by omega) (fun x=>by cases x)
   obtain ⟨m5,u1,u2,u3⟩:=t2.setB true
   exact ⟨m4,m5,t1,u1,u2,t3.trans u3⟩
  obtain ⟨m4,m5,t1,t2,t3,t4⟩:=lose true
  obtain ⟨m6,z1,z2⟩:=ask7 ⟨TA (d + 6),18446744073709551616⟩ t3
  have z1:Qi ⟨TA (d + 6),18446744073709551616⟩ (pt bB 0 0) (pt bR 0 0) (pt b2 0 0) (pt bQ 0 0) m5=some (qnV none,m6):=z1
  cases hb:(bad || ws.tail.isEmpty) with
  | true =>
   have hn:resA bad (A15 ws q)=none:=by
    unfold resA
    cases bad with
    | true=>rfl
    | false =>
     rw [if_neg (by decide),hA]
     have:=Xnw (ws:=ws.tail) rfl (by simpa using hb)
     rw [this]
   rw [hn]
   refine ⟨m6,?_,(F3.trans t4).trans z2⟩
   simp only [Xh,Xy,X7,t1,Xg,t2]
   exact z1
  | false =>
   simp only [Bool.or_eq_false_iff] at hb
   obtain ⟨rfl,hb2⟩:=hb
   have hR:resA false (A15 ws q)=A15 ws q:=rfl
   rw [hR,hA]
   cases hp:X21 (ws.tail.headD []) with
   | none =>
    refine ⟨m6,?_,(F3.trans t4).trans z2⟩
    simp only [Xd,X2o,Option.isSome_none,Bool.not_false,Xy,X7,t1,Xg,t2]
    exact z1
   | some x =>
    obtain ⟨x,y⟩:=x
    obtain ⟨rfl,rfl⟩:=c2 x y hp
    obtain ⟨m4',v1,v2,v3⟩:=p3.put false { q with r:={ q.r with dl:=x,dh:=y } } 13 2 (X1k x y) rfl rfl (by omega) (fun _=>⟨rfl,rfl⟩)
    have v1:X8 2 (pt bQ (0 + 5 + 8) 0) (X1k x y) m3=some m4':=v1
    obtain ⟨m5',u1,u2,u3⟩:=v2.setB false
    obtain ⟨m6',z1',z2'⟩:=ask7 ⟨TA (d + 6),18446744073709551616⟩ u2
    refine ⟨m6',?_,((F3.trans v3).trans u3).trans z2'⟩
    simp only [Xd,X2o,Option.isSome_some,Bool.not_true,Xy,X7,v1,Xg,u1]
    exact z1'
 ·rw [if_neg hx] at k2 ⊢
  have hA:A15 ws q=A7 ws q:=by unfold A15; rw [if_neg hx]
  rw [hA]
  obtain ⟨m',r1,r2⟩:=ask7 ⟨TA (d + 6),18446744073709551616⟩ k2
  exact ⟨m',r1,k3.trans r2⟩
end Go.Ab.Sh

set_option maxRecDepth 100000
namespace Go.Ab.Sh
open Go Go.Ab Go.Lib
variable {mW:Mem} {b2 bR bB bW bI bQ:Nat} {m:Mem} {ws:List Str} {bad dead:Bool} {q:QN}
theorem Xy7 (d:Nat) (h:PA mW b2 bR bB bW bI bQ m ws bad bad q):∃ m',Q6h ⟨TA (d + 6),18446744073709551616⟩ (pt bI 0 0) (pt bW 0 0) (pt bB 0 0) (pt bQ 0 0) (pt bR 0 0) (pt b2 0 0) m=some (qnV (resA bad (A14 ws q)),m')∧Fb b2 m m':=by
 have ex:Value.string ⟨#[115,112,111,114,116,115]⟩=sv sportsW:=rfl
 obtain ⟨m1,k1,k2,k3⟩:=h.is sportsW d
 unfold Q6h
 simp only [ex,h.ldI,X7,k1,X9,Xj]
 by_cases hx:ws.head?=some sportsW
 ·rw [if_pos hx] at k2 ⊢
  have hA:A14 ws q=match X21 (ws.tail.headD []) with | none=>none | some (a,b)=>A15 ws.tail.tail { q with r:={ q.r with sl:=a,sh:=b } }:=by unfold A14; rw [if_pos hx]; try rfl
  obtain ⟨m2,y1,y2,y3⟩:=k2.word d
  have hl:=X4y k2.a.hw
  obtain ⟨lo,hi,c1,c2⟩:=c_ports (ws.tail.headD []) hl (d + 3) m2
  have c1:TA (d + 6) Q6o [sv (ws.tail.headD [])] m2=_:=c1
  obtain ⟨m3,s1,s2,s3,s4⟩:=X16 [] m2 (some (2 * Qu + 1)) Qv (v:=X1k lo hi) (n:=2) rfl rfl rfl
  have s1:X8 2 (pt m2.next 0 0) (X1k lo hi) (m2.push (.cells Qv 0 0 false (some (2 * Qu + 1))))=some m3:=s1
  have lds:X4 true 2 (pt m2.next 0 0) m3=some (X1k lo hi):=X10 s4 (by show 2 ≤ 2; omega) rfl
  obtain ⟨p3,f3⟩:=y2.frn s2
  have hgo:∀ (X:Mem→Prop) (R:Value),(∃ m',(brb (.bool (bad || ws.tail.isEmpty))
  (bp (pur (X0 5 (pt bQ 0 0)) m3) fun x16 m =>
 bp (pur (X0 6 x16) m) fun x17 m =>
 bp (unt (X8 2 x17 (X1k lo hi) m)) fun _ m =>
 bp (unt (X8 1 (pt bB 0 0) (.bool true) m)) fun _ m =>
 Q28 ⟨TA (d + 6),18446744073709551616⟩ (pt bI 0 0) (pt bW 0 0) (pt bB 0 0) (pt bQ 0 0) (pt bR 0 0) (pt b2 0 0) m)
  (bp (pur (un .not (.bool (X21 (ws.tail.headD [])).isSome)) m3) fun x18 m =>
 bp (pur (X0 5 (pt bQ 0 0)) m) fun x19 m =>
 bp (pur (X0 6 x19) m) fun x20 m =>
 bp (unt (X8 2 x20 (X1k lo hi) m)) fun _ m =>
 bp (unt (X8 1 (pt bB 0 0) x18 m)) fun _ m =>
 Q28 ⟨TA (d + 6),18446744073709551616⟩ (pt bI 0 0) (pt bW 0 0) (pt bB 0 0) (pt bQ 0 0) (pt bR 0 0) (pt b2 0 0) m))=some (R,m')∧X m')→∃ m',(bp (pur (X4 false 1 (pt bW 0 0) m1) m1) fun x8 m =>
 bp (Xi (TA (d + 6)) x8 [] m) fun x9 m =>
 bp (TA (d + 6) Q6o [x9] m) fun x10 m =>
 bp (pur (X6 x10 0) m) fun x11 m =>
 bp (pur (X6 x10 1) m) fun x12 m =>
 bp (some (aNew Qu Qv m)) fun x13 m =>
 bp (unt (X8 2 x13 x11 m)) fun _ m =>
 bp (pur (X4 true 2 x13 m) m) fun x14 m =>
 bp (pur (X4 false 1 (pt bB 0 0) m) m) fun x15 m =>
 brb x15
  (bp (pur (X0 5 (pt bQ 0 0)) m) fun x16 m =>
 bp (pur (X0 6 x16) m) fun x17 m =>
 bp (unt (X8 2 x17 x14 m)) fun _ m =>
 bp (unt (X8 1 (pt bB 0 0) (.bool true) m)) fun _ m =>
 Q28 ⟨TA (d + 6),18446744073709551616⟩ (pt bI 0 0) (pt bW 0 0) (pt bB 0 0) (pt bQ 0 0) (pt bR 0 0) (pt b2 0 0) m)
  (bp (pur (un .not x12) m) fun x18 m =>
 bp (pur (X0 5 (pt bQ 0 0)) m) fun x19 m =>
 bp (pur (X0 6 x19) m) fun x20 m =>
 bp (unt (X8 2 x20 x14 m)) fun _ m =>
 bp (unt (X8 1 (pt bB 0 0) x18 m)) fun _ m =>
 Q28 ⟨TA (d + 6),18446744073709551616⟩ (pt bI 0 0) (pt bW 0 0) (pt bB 0 0) (pt bQ 0 0) (pt bR 0 0) (pt b2 0 0) m))=some (R,m')∧X m':=by
   intro X R ⟨m',r1,r2⟩
   refine ⟨m',?_,r2⟩
   rw [k2.ldW,X7,y1,X9,c1,X9,ex0,X7,ex1,X7,X13]
   rw [s1,Xg,lds,X7,p3.ldB,X7]
   exact r1
  refine hgo _ _ ?_
  have F3:Fb b2 m m3:=(k3.trans y3).trans f3
  have lose:∀ c:Bool,∃ m4 m5,X8 2 (pt bQ (0 + 5 + 6) 0) (X1k lo hi) m3=some m4∧X8 1 (pt bB 0 0) (.bool true) m4=some m5∧PA mW b2 bR bB bW bI bQ m5 ws.tail.tail true true q∧Fb b2 m3 m5:=by
   intro c
   obtain ⟨m4,t1,t2,t3⟩:=p3.put true q 11 2 (X1k lo hi) rfl rfl (by omega) (fun x=>by cases x)
   obtain ⟨m5,u1,u2,u3⟩:=t2.setB true
   exact ⟨m4,m5,t1,u1,u2,t3.trans u3⟩
  obtain ⟨m4,m5,t1,t2,t3,t4⟩:=lose true
  obtain ⟨m6,z1,z2⟩:=X100 d t3
  have z1:Q28 ⟨TA (d + 6),18446744073709551616⟩ (pt bI 0 0) (pt bW 0 0) (pt bB 0 0) (pt bQ 0 0) (pt bR 0 0) (pt b2 0 0) m5=some (qnV none,m6):=z1
  cases hb:(bad || ws.tail.isEmpty) with
  | true =>
   have hn:resA bad (A14 ws q)=none:=by
    unfold resA
    cases bad with
    | true=>rfl
    | false =>
     rw [if_neg (by decide),hA]
     have:=Xnw (ws:=ws.tail) rfl (by simpa using hb)
     rw [this]
   rw [hn]
   refine ⟨m6,?_,(F3.trans t4).trans z2⟩
   simp only [Xh,Xy,X7,t1,Xg,t2]
   exact z1
  | false =>
   simp only [Bool.or_eq_false_iff] at hb
   obtain ⟨rfl,hb2⟩:=hb
   have hR:resA false (A14 ws q)=A14 ws q:=rfl
   rw [hR,hA]
   cases hp:X21 (ws.tail.headD []) with
   | none =>
    refine ⟨m6,?_,(F3.trans t4).trans z2⟩
    simp only [Xd,X2o,Option.isSome_none,Bool.not_false,Xy,X7,t1,Xg,t2]
    exact z1
   | some x =>
    obtain ⟨x,y⟩:=x
    obtain ⟨rfl,rfl⟩:=c2 x y hp
    obtain ⟨m4',v1,v2,v3⟩:=p3.put false { q with r:={ q.r with sl:=x,sh:=y } } 11 2 (X1k x y) rfl rfl (by omega) (fun _=>⟨rfl,rfl⟩)
    have v1:X8 2 (pt bQ (0 + 5 + 6) 0) (X1k x y) m3=some m4':=v1
    obtain ⟨m5',u1,u2,u3⟩:=v2.setB false
    obtain ⟨m6',z1',z2'⟩:=X100 d u2
    refine ⟨m6',?_,((F3.trans v3).trans u3).trans z2'⟩
    simp only [Xd,X2o,Option.isSome_some,Bool.not_true,Xy,X7,v1,Xg,u1]
    exact z1'
 ·rw [if_neg hx] at k2 ⊢
  have hA:A14 ws q=A15 ws q:=by unfold A14; rw [if_neg hx]
  rw [hA]
  obtain ⟨m',r1,r2⟩:=X100 d k2
  exact ⟨m',r1,k3.trans r2⟩
theorem num_nil (n:Nat):num n []=none:=by
 cases h:num n [] with
 | none=>rfl
 | some k =>
  have:=(num_some.mp h).1
  exact absurd this.symm (by intro e; have:=Xsx k; exact this e)
theorem X13a (d:Nat) (h:PA mW b2 bR bB bW bI bQ m ws bad bad q):∃ m',Qil ⟨TA (d + 6),18446744073709551616⟩ (pt bI 0 0) (pt bW 0 0) (pt bB 0 0) (pt bQ 0 0) (pt bR 0 0) (pt b2 0 0) m=some (qnV (resA bad (A13 ws q)),m')∧Fb b2 m m':=by
 have ex:Value.string ⟨#[112,114,111,116,111]⟩=sv protoW:=rfl
 obtain ⟨m1,k1,k2,k3⟩:=h.is protoW d
 unfold Qil
 simp only [ex,h.ldI,X7,k1,X9,Xj]
 by_cases hx:ws.head?=some protoW
 ·rw [if_pos hx] at k2 ⊢
  have hA:A13 ws q=match num 255 (ws.tail.headD []) with | none=>none | some n=>A14 ws.tail.tail { q with r:={ q.r with proto:=(n:Nat) } }:=by unfold A13; rw [if_pos hx]; try rfl
  obtain ⟨m2,y1,y2,y3⟩:=k2.word d
  have hl:=X4y k2.a.hw
  have c1:TA (d + 6) Q1p [sv (ws.tail.headD []),.int .i64 255] m2=_:=c_lexNumber' (ws.tail.headD []) hl 255 (by omega) (d + 5) m2
  simp only [k2.ldW,X7,y1,X9,c1,ex0,ex1,y2.ldB]
  have F3:Fb b2 m m2:=k3.trans y3
  obtain ⟨m4,t1,v2,v3⟩:=y2.put true q 6 1 (I (numV (num 255 (ws.tail.headD [])))) rfl rfl (by omega) (fun x=>by cases x)
  have t1:X8 1 (pt bQ (0 + 5 + 1) 0) (I (numV (num 255 (ws.tail.headD [])))) m2=some m4:=t1
  obtain ⟨m5,t2,t3,u3⟩:=v2.setB true
  obtain ⟨m6,z1,z2⟩:=Xy7 d t3
  have z1:Q6h ⟨TA (d + 6),18446744073709551616⟩ (pt bI 0 0) (pt bW 0 0) (pt bB 0 0) (pt bQ 0 0) (pt bR 0 0) (pt b2 0 0) m5=some (qnV none,m6):=z1
  have F6:Fb b2 m m6:=((F3.trans v3).trans u3).trans z2
  cases hb:(bad || ws.tail.isEmpty) with
  | true =>
   have hn:resA bad (A13 ws q)=none:=by
    unfold resA
    cases bad with
    | true=>rfl
    | false =>
     rw [if_neg (by decide),hA]
     have he:ws.tail.headD []=[]:=by
      cases hw:ws.tail with
      | nil=>rfl
      | cons a b=>rw [hw] at hb; cases hb
     rw [he,num_nil]
   rw [hn]
   refine ⟨m6,?_,F6⟩
   simp only [Xh,Xy,X7,t1,Xg,t2]
   exact z1
  | false =>
   simp only [Bool.or_eq_false_iff] at hb
   obtain ⟨rfl,hb2⟩:=hb
   have hR:resA false (A13 ws q)=A13 ws q:=rfl
   rw [hR,hA]
   cases hp:num 255 (ws.tail.headD []) with
   | none =>
    rw [hp] at t1
    refine ⟨m6,?_,F6⟩
    simp only [Xd,X2o,Option.isSome_none,Bool.not_false,Xy,X7,t1,Xg,t2]
    exact z1
   | some n =>
    obtain ⟨m4',v1,v2',v3'⟩:=y2.put false { q with r:={ q.r with proto:=(n:Nat) } } 6 1 (I (n:Nat)) rfl rfl (by omega) (fun _=>⟨rfl,rfl⟩)
    have v1:X8 1 (pt bQ (0 + 5 + 1) 0) (I (n:Nat)) m2=some m4':=v1
    obtain ⟨m5',u1,u2,u3'⟩:=v2'.setB false
    obtain ⟨m6',z1',z2'⟩:=Xy7 d u2
    refine ⟨m6',?_,((F3.trans v3').trans u3').trans z2'⟩
    simp only [Xd,X2o,Option.isSome_some,Bool.not_true,Xy,X7,numV,Option.getD_some,v1,Xg,u1]
    exact z1'
 ·rw [if_neg hx] at k2 ⊢
  have hA:A13 ws q=A14 ws q:=by unfold A13; rw [if_neg hx]
  rw [hA]
  obtain ⟨m',r1,r2⟩:=Xy7 d k2
  exact ⟨m',r1,k3.trans r2⟩
end Go.Ab.Sh

set_option maxRecDepth 100000
namespace Go.Ab.Sh
open Go Go.Ab Go.Lib
variable {mW:Mem} {b2 bR bB bW bI bQ:Nat} {m:Mem} {ws:List Str} {bad dead:Bool} {q:QN}
theorem PA.weaken (h:PA mW b2 bR bB bW bI bQ m ws bad false q) (dead:Bool):PA mW b2 bR bB bW bI bQ m ws bad dead q:=by
 obtain ⟨cs,g1,g2,g3⟩:=h.gQ
 exact { h with gQ:=⟨cs,g1,g2,fun _=>g3 rfl⟩ }
def prfO (x:Str) (ws:List Str):Option (Nat × Nat × List Str):=
 if ws.head?=some x then (if (X2v (ws.tail.headD [])).2.2=0∧(X2v (ws.tail.headD [])).2.1 ≠ 0 then some ((X2v (ws.tail.headD [])).1,(X2v (ws.tail.headD [])).2.1,ws.tail.tail) else none) else some (0,0,ws)
theorem Xt7:X2v []=(0,0,4):=rfl
theorem Xdy {ws:List Str} (h:ws.isEmpty=true):ws.headD []=[]:=by
 cases ws with
 | nil=>rfl
 | cons a b=>cases h
theorem Xml (x:Str) (ws:List Str) (bad:Bool):(prfS x ws bad).2.2.2=(bad || (prfO x ws).isNone):=by
 unfold prfS prfO
 by_cases hx:ws.head?=some x
 ·rw [if_pos hx,if_pos hx]
  simp only
  cases he:ws.tail.isEmpty with
  | true =>
   rw [Xdy he,Xt7]
   cases bad <;> rfl
  | false =>
   by_cases h1:(X2v (ws.tail.headD [])).2.2=0
   ·by_cases h2:(X2v (ws.tail.headD [])).2.1=0
    ·rw [if_neg (fun h=>h.2 h2),decide_eq_true h2,decide_eq_false (fun h=>h h1)]
     cases bad <;> rfl
    ·rw [if_pos ⟨h1,h2⟩,decide_eq_false h2,decide_eq_false (fun h=>h h1)]
     cases bad <;> rfl
   ·rw [if_neg (fun h=>h1 h.1),decide_eq_true h1]
    cases bad <;> simp
 ·rw [if_neg hx,if_neg hx]
  cases bad <;> rfl
theorem Xiu {x:Str} {ws ws':List Str} {bad:Bool} {a b:Nat} (h:prfO x ws=some (a,b,ws')):(prfS x ws bad).1=a∧(prfS x ws bad).2.1=b∧(prfS x ws bad).2.2.1=ws':=by
 unfold prfO at h
 unfold prfS
 by_cases hx:ws.head?=some x
 ·rw [if_pos hx] at h ⊢
  split at h
  ·cases h
   exact ⟨rfl,rfl,rfl⟩
  ·cases h
 ·rw [if_neg hx] at h ⊢
  cases h
  exact ⟨rfl,rfl,rfl⟩
def A12 (ws:List Str) (q:QN):Option QN:=match prfO fromW ws with
 | none=>none
 | some (a,b,ws1)=>match prfO toW ws1 with
  | none=>none
  | some (c,e,ws2)=>A13 ws2 { q with r:={ q.r with sa:=a,sb:=(b:Nat),da:=c,db:=(e:Nat) } }
def A11 (ws:List Str) (q:QN):Option QN:=if q.kind < 3 then (if posG 0 endsL (ws.headD [])=0 then none else A12 ws.tail { q with en:=posG 0 endsL (ws.headD []) }) else A12 ws q
def A10 (ws:List Str) (q:QN):Option QN:=if X1b (ws.headD [])=true∧X1b (ws.tail.headD [])=true then A11 ws.tail.tail { q with dev:=ws.headD [],ifc:=ws.tail.headD [],r:=rlH } else none
theorem Xye (d:Nat) (h:PA mW b2 bR bB bW bI bQ m ws bad false q):∃ m',Q8t ⟨TA (d + 6),18446744073709551616⟩ (fP bI bW bB) (pt bQ 0 0) (pt bI 0 0) (pt bW 0 0) (pt bB 0 0) (pt bR 0 0) (pt b2 0 0) m=some (qnV (resA bad (A12 ws q)),m')∧Fb b2 m m':=by
 have e1:Value.string ⟨#[102,114,111,109]⟩=sv fromW:=rfl
 have e2:Value.string ⟨#[116,111]⟩=sv toW:=rfl
 obtain ⟨m1,k1,k2,k3⟩:=h.prefix' fromW d
 obtain ⟨m2,y1,y2,y3⟩:=k2.prefix' toW d
 obtain ⟨A,hA⟩:∃ A,A=prfS fromW ws bad:=⟨_,rfl⟩
 rw [← hA] at k1 k2 y1 y2
 obtain ⟨B,hB⟩:∃ B,B=prfS toW A.2.2.1 A.2.2.2:=⟨_,rfl⟩
 rw [← hB] at y1 y2
 obtain ⟨m3,s1,s2,s3⟩:=y2.put false { q with r:={ q.r with sa:=A.1,sb:=(A.2.1:Nat) } } 7 2 (pfx A.1 (A.2.1:Nat)) rfl rfl (by omega) (fun _=>⟨rfl,rfl⟩)
 have s1:X8 2 (pt bQ (0 + 5 + 2) 0) (pfx A.1 (A.2.1:Nat)) m2=some m3:=s1
 obtain ⟨m4,t1,t2,t3⟩:=s2.put false { q with r:={ q.r with sa:=A.1,sb:=(A.2.1:Nat),da:=B.1,db:=(B.2.1:Nat) } } 9 2 (pfx B.1 (B.2.1:Nat)) rfl rfl (by omega) (fun _=>⟨rfl,rfl⟩)
 have t1:X8 2 (pt bQ (0 + 5 + 4) 0) (pfx B.1 (B.2.1:Nat)) m3=some m4:=t1
 obtain ⟨m5,z1,z2⟩:=X13a d (t2.weaken B.2.2.2)
 refine ⟨m5,?_,((((k3.trans y3).trans s3).trans t3).trans z2)⟩
 unfold Q8t
 simp only [e1,e2,k1,X9,y1,Xy,X7,s1,Xg,t1]
 rw [z1]
 congr 3
 have b1:A.2.2.2=(bad || (prfO fromW ws).isNone):=by rw [hA]; exact Xml fromW ws bad
 have b2:B.2.2.2=(A.2.2.2 || (prfO toW A.2.2.1).isNone):=by rw [hB]; exact Xml toW _ _
 unfold resA A12
 cases bad with
 | true =>
  rw [b2,b1]
  rfl
 | false =>
  rw [if_neg (show ¬ false=true by decide)]
  cases ho:prfO fromW ws with
  | none =>
   rw [b2,b1,ho]
   rfl
  | some x =>
   obtain ⟨a,b,ws1⟩:=x
   obtain ⟨c1,c2,c3⟩:=Xiu (bad:=false) ho
   rw [← hA] at c1 c2 c3
   rw [c3] at b2
   simp only
   cases ho2:prfO toW ws1 with
   | none =>
    rw [b2,ho2]
    simp
   | some y =>
    obtain ⟨c,e,ws2⟩:=y
    have hA2:A.2.2.2=false:=by rw [b1,ho]; rfl
    rw [← c3] at ho2
    obtain ⟨f1,f2,f3⟩:=Xiu (bad:=A.2.2.2) ho2
    rw [← hB] at f1 f2 f3
    have hB2:B.2.2.2=false:=by rw [b2,hA2,← c3,ho2]; rfl
    rw [hB2,if_neg (by decide),f3,c1,c2,f1,f2]
theorem X13i (d:Nat) (h:PA mW b2 bR bB bW bI bQ m ws bad false q) (hk:q.kind < 256):∃ m',Qim ⟨TA (d + 6),18446744073709551616⟩ (pt bQ 0 0) (pt bW 0 0) (pt bB 0 0) (fP bI bW bB) (pt bI 0 0) (pt bR 0 0) (pt b2 0 0) m=some (qnV (resA bad (A11 ws q)),m')∧Fb b2 m m':=by
 obtain ⟨cs,g1,g2,g3⟩:=h.gQ
 have:=g3 rfl
 subst this
 have l0:X4 false 1 (pt bQ (0 + 0) 0) m=some (.int .u8 (q.kind:Int)):=Xt g1 rfl
 unfold Qim
 simp only [Xy,l0,X7,Q34,Xj]
 by_cases k3:q.kind < 3
 ·rw [if_pos (by omega)]
  have hA:A11 ws q=if posG 0 endsL (ws.headD [])=0 then none else A12 ws.tail { q with en:=posG 0 endsL (ws.headD []) }:=by unfold A11; rw [if_pos k3]
  obtain ⟨m2,y1,y2,y3⟩:=h.word d
  have hpos:=Xa4 endsL 0 (ws.headD [])
  have hel:endsL.length=7:=rfl
  have cp:TA (d + 6) Q3o [sv Xdu,sv (ws.headD [])] m2=some (I (posG 0 endsL (ws.headD []):Nat),m2):=c_placeE (ws.headD []) (d + 4) m2
  have wr:IntKind.u8.wrap ((posG 0 endsL (ws.headD []):Nat):Int)=((posG 0 endsL (ws.headD []):Nat):Int):=by rw [IntWalk.u8_in _ (by omega)]
  obtain ⟨m3,s1,s2,s3⟩:=y2.put false { q with en:=posG 0 endsL (ws.headD []) } 4 1 (.int .u8 ((posG 0 endsL (ws.headD []):Nat):Int)) rfl rfl (by omega) (fun _=>⟨rfl,rfl⟩)
  have s1:X8 1 (pt bQ (0 + 4) 0) (.int .u8 ((posG 0 endsL (ws.headD []):Nat):Int)) m2=some m3:=s1
  obtain ⟨cs,j1,j2,j3⟩:=s2.gQ
  have:=j3 rfl
  subst this
  have l4:X4 false 1 (pt bQ (0 + 4) 0) m3=some (.int .u8 ((posG 0 endsL (ws.headD []):Nat):Int)):=Xt j1 rfl
  rw [h.ldW,X7,y1,X9]
  have hgo:∀ (X:Mem→Prop) (R:Value) (K:Value→Mem→Option Rs),(∃ m',K (I (posG 0 endsL (ws.headD []):Nat)) m2=some (R,m')∧X m')→∃ m',bp (TA (d + 6) Q3o [sv Xdu,sv (ws.headD [])] m2) K=some (R,m')∧X m':=by
   intro X R K ⟨m',r1,r2⟩
   exact ⟨m',by rw [cp,X9]; exact r1,r2⟩
  refine hgo _ _ _ ?_
  simp only [X9,c_int,wr,Xy,X7,s1,Xg,s2.ldB,l4,Q5z]
  have F3:=y3.trans s3
  cases hb:(bad || ws.isEmpty) with
  | true =>
   obtain ⟨m4,t1,t2,t3⟩:=s2.setB true
   obtain ⟨m5,z1,z2⟩:=Xye d t2
   refine ⟨m5,?_,(F3.trans t3).trans z2⟩
   simp only [Xh,t1,Xg]
   rw [z1]
   congr 3
   unfold resA
   rw [if_pos rfl]
   cases bad with
   | true=>rfl
   | false =>
    rw [if_neg (by decide),hA,Xdy (by simpa using hb)]
    rfl
  | false =>
   simp only [Bool.or_eq_false_iff] at hb
   obtain ⟨rfl,hb2⟩:=hb
   obtain ⟨m4,t1,t2,t3⟩:=s2.setB (decide (((posG 0 endsL (ws.headD []):Nat):Int)=0))
   obtain ⟨m5,z1,z2⟩:=Xye d t2
   refine ⟨m5,?_,(F3.trans t3).trans z2⟩
   simp only [Xd,t1,Xg]
   rw [z1,hA]
   congr 3
   unfold resA
   rw [if_neg (show ¬ false=true by decide)]
   by_cases h0:posG 0 endsL (ws.headD [])=0
   ·rw [if_pos h0,decide_eq_true (by omega),if_pos rfl]
   ·rw [if_neg h0,decide_eq_false (by omega),if_neg (by decide)]
 ·rw [if_neg (by omega)]
  have hA:A11 ws q=A12 ws q:=by unfold A11; rw [if_neg k3]
  rw [hA]
  exact Xye d h
theorem X12o (d:Nat) (h:PA mW b2 bR bB bW bI bQ m ws bad false q) (hk:q.kind < 256) (p35:Value):∃ m',Q4q ⟨TA (d + 6),18446744073709551616⟩ (.bool true) (fN bW bB) (pt bQ 0 0) (pt bW 0 0) (pt bB 0 0) (fP bI bW bB) (pt bI 0 0) (pt bR 0 0) (pt b2 0 0) p35 m=some (qnV (resA bad (A10 ws q)),m')∧Fb b2 m m':=by
 obtain ⟨m1,k1,k2,k3⟩:=h.name d
 obtain ⟨m2,y1,y2,y3⟩:=k2.name d
 have ch:TA (d + 6) Qjr [] m2=some (rlV rlH,m2):=c_heads (d + 5) m2
 obtain ⟨m3,s1,s2,s3⟩:=y2.put false { q with dev:=ws.headD [] } 1 1 (sv (ws.headD [])) rfl rfl (by omega) (fun _=>⟨rfl,rfl⟩)
 have s1:X8 1 (pt bQ (0 + 1) 0) (sv (ws.headD [])) m2=some m3:=s1
 obtain ⟨m4,t1,t2,t3⟩:=s2.put false { q with dev:=ws.headD [],ifc:=ws.tail.headD [] } 2 1 (sv (ws.tail.headD [])) rfl rfl (by omega) (fun _=>⟨rfl,rfl⟩)
 have t1:X8 1 (pt bQ (0 + 2) 0) (sv (ws.tail.headD [])) m3=some m4:=t1
 obtain ⟨m5,u1,u2,u3⟩:=t2.put false { q with dev:=ws.headD [],ifc:=ws.tail.headD [],r:=rlH } 5 10 (rlV rlH) rfl rfl (by omega) (fun _=>⟨rfl,rfl⟩)
 have u1:X8 10 (pt bQ (0 + 5) 0) (rlV rlH) m4=some m5:=u1
 obtain ⟨m6,z1,z2⟩:=X13i d u2 hk
 refine ⟨m6,?_,(((((k3.trans y3).trans s3).trans t3).trans u3).trans z2)⟩
 unfold Q4q
 simp only [Xh,k1,X9,y1,ch,Xy,X7,s1,Xg,t1,u1]
 rw [z1]
 congr 3
 have nn:∀ l:List Str,(l.isEmpty || !X1b (l.headD []))=!X1b (l.headD []):=by
  intro l
  cases l with
  | nil=>rfl
  | cons a b=>rfl
 unfold resA A10
 have e:(bad || ws.isEmpty || !X1b (ws.headD []) || ws.tail.isEmpty || !X1b (ws.tail.headD []))=(bad || !X1b (ws.headD []) || !X1b (ws.tail.headD [])):=by
  rw [← nn ws,← nn ws.tail]
  simp only [Bool.or_assoc]
  rw [← Bool.or_assoc ws.isEmpty,← Bool.or_assoc ws.tail.isEmpty]
  simp
 rw [e]
 cases bad with
 | true=>rfl
 | false =>
  rw [if_neg (show ¬ false=true by decide)]
  cases n1:X1b (ws.headD []) with
  | false=>simp
  | true =>
   cases n2:X1b (ws.tail.headD []) with
   | false=>simp
   | true=>simp
end Go.Ab.Sh

set_option maxRecDepth 100000
namespace Go.Ab.Sh
open Go Go.Ab Go.Lib
variable {mW:Mem} {b2 bR bB bW bI bQ:Nat} {m:Mem} {ws:List Str} {bad dead:Bool} {q:QN}
theorem Xbr (l:List Str) (bad:Bool):(bad || l.isEmpty || !X1b (l.headD []))=(bad || !X1b (l.headD [])):=by
 cases l with
 | nil=>cases bad <;> rfl
 | cons a b=>cases bad <;> rfl
def A17 (ws:List Str) (q:QN):Option QN:=if X1b (ws.headD [])=true then (if ws.tail.head?=some vrfW then (if X1b (ws.tail.tail.headD [])=true then A7 ws.tail.tail.tail { q with dev:=ws.headD [],vrf:=ws.tail.tail.headD [] } else none) else A7 ws.tail { q with dev:=ws.headD [] }) else none
def A17o (ws:List Str) (q:QN):Option QN:=match X5z (ws.headD []) with | none=>none | some a=>A7 ws.tail { q with ad:=a }
theorem Xy2 (d:Nat) (h:PA mW b2 bR bB bW bI bQ m ws bad false q) (p35:Value):∃ m',Q3d ⟨TA (d + 6),18446744073709551616⟩ (.bool true) (fN bW bB) (pt bQ 0 0) (pt bI 0 0) (pt bB 0 0) (pt bR 0 0) (pt b2 0 0) p35 (pt bW 0 0) m=some (qnV (resA bad (A17 ws q)),m')∧Fb b2 m m':=by
 have ex:Value.string ⟨#[118,114,102]⟩=sv vrfW:=rfl
 obtain ⟨m1,k1,k2,k3⟩:=h.name d
 rw [Xbr] at k2
 obtain ⟨m2,s1,s2,s3⟩:=k2.put false { q with dev:=ws.headD [] } 1 1 (sv (ws.headD [])) rfl rfl (by omega) (fun _=>⟨rfl,rfl⟩)
 have s1:X8 1 (pt bQ (0 + 1) 0) (sv (ws.headD [])) m1=some m2:=s1
 obtain ⟨m3,y1,y2,y3⟩:=s2.is vrfW d
 have F3:=(k3.trans s3).trans y3
 unfold Q3d
 simp only [Xh,k1,X9,Xy,X7,s1,Xg,s2.ldI,ex,y1,Xj]
 by_cases hv:ws.tail.head?=some vrfW
 ·rw [if_pos hv] at y2 ⊢
  obtain ⟨m4,j1,j2,j3⟩:=y2.name d
  rw [Xbr] at j2
  obtain ⟨m5,t1,t2,t3⟩:=j2.put false { q with dev:=ws.headD [],vrf:=ws.tail.tail.headD [] } 3 1 (sv (ws.tail.tail.headD [])) rfl rfl (by omega) (fun _=>⟨rfl,rfl⟩)
  have t1:X8 1 (pt bQ (0 + 3) 0) (sv (ws.tail.tail.headD [])) m4=some m5:=t1
  obtain ⟨m6,z1,z2⟩:=ask7 ⟨TA (d + 6),18446744073709551616⟩ (t2.weaken _)
  refine ⟨m6,?_,((F3.trans j3).trans t3).trans z2⟩
  simp only [j1,X9,Xy,X7,t1,Xg]
  rw [z1]
  congr 3
  unfold resA A17
  rw [if_pos hv]
  cases bad with
  | true=>rfl
  | false =>
   cases n1:X1b (ws.headD []) with
   | false=>simp
   | true =>
    cases n2:X1b (ws.tail.tail.headD []) with
    | false=>simp
    | true=>simp
 ·rw [if_neg hv] at y2 ⊢
  obtain ⟨m6,z1,z2⟩:=ask7 ⟨TA (d + 6),18446744073709551616⟩ (y2.weaken _)
  refine ⟨m6,?_,F3.trans z2⟩
  rw [z1]
  congr 3
  unfold resA A17
  rw [if_neg hv]
  cases bad with
  | true=>rfl
  | false =>
   cases n1:X1b (ws.headD []) with
   | false=>simp
   | true=>simp
theorem Xj3:X5z []=none:=rfl
theorem X119 (d:Nat) (h:PA mW b2 bR bB bW bI bQ m ws bad false q):∃ m',Q3d ⟨TA (d + 6),18446744073709551616⟩ (.bool false) (fN bW bB) (pt bQ 0 0) (pt bI 0 0) (pt bB 0 0) (pt bR 0 0) (pt b2 0 0) (.int .u8 ((7:Nat):Int)) (pt bW 0 0) m=some (qnV (resA bad (A17o ws q)),m')∧Fb b2 m m':=by
 obtain ⟨m1,k1,k2,k3⟩:=h.word d
 have hl:=X4y h.a.hw
 have c1:TA (d + 6) Q6x [sv (ws.headD [])] m1=_:=c_addrParse (ws.headD []) hl (d + 2) m1
 unfold Q3d
 simp only [Xd,Q5z,X7,Xj]
 rw [if_pos (by decide)]
 simp only [h.ldW,X7,k1,X9,c1]
 unfold A17o
 cases ha:X5z (ws.headD []) with
 | none =>
  obtain ⟨m2,s1,s2,s3⟩:=k2.put false { q with ad:=0 } 21 1 (.int .u32 0) rfl rfl (by omega) (fun _=>⟨rfl,rfl⟩)
  have s1:X8 1 (pt bQ (0 + 21) 0) (.int .u32 0) m1=some m2:=s1
  obtain ⟨m3,t1,t2,t3⟩:=s2.setB true
  obtain ⟨m4,z1,z2⟩:=ask7 ⟨TA (d + 6),18446744073709551616⟩ (t2.weaken _)
  have hr:resA bad none=none:=by unfold resA; split <;> rfl
  refine ⟨m4,?_,((k3.trans s3).trans t3).trans z2⟩
  simp only [Xdb,ex0,ex1,X7,k2.ldB,Q8k,Xy,s1,Xg]
  rw [hr]
  have t1':X8 1 (pt bB 0 0) (.bool (decide ((4:Int) ≠ 0))) m2=some m3:=t1
  cases (bad || ws.isEmpty) with
  | true=>rw [Xh,t1,Xg]; exact z1
  | false=>rw [Xd,t1',Xg]; exact z1
 | some a =>
  have hne:ws.isEmpty=false:=by
   cases ws with
   | nil=>rw [show ([]:List Str).headD []=[] from rfl,Xj3] at ha; cases ha
   | cons x y=>rfl
  obtain ⟨m2,s1,s2,s3⟩:=k2.put false { q with ad:=a } 21 1 (.int .u32 (a:Int)) rfl rfl (by omega) (fun _=>⟨rfl,rfl⟩)
  have s1:X8 1 (pt bQ (0 + 21) 0) (.int .u32 (a:Int)) m1=some m2:=s1
  rw [hne,Bool.or_false] at s2 k2
  obtain ⟨m3,t1,t2,t3⟩:=s2.setB bad
  obtain ⟨m4,z1,z2⟩:=ask7 ⟨TA (d + 6),18446744073709551616⟩ (t2.weaken _)
  refine ⟨m4,?_,((k3.trans s3).trans t3).trans z2⟩
  simp only [Xdb,ex0,ex1,X7,k2.ldB,Q8k,Xy,s1,Xg]
  cases bad with
  | true=>rw [Xh,t1,Xg]; exact z1
  | false =>
   have t1':X8 1 (pt bB 0 0) (.bool (decide ((0:Int) ≠ 0))) m2=some m3:=t1
   rw [Xd,t1',Xg]; exact z1
theorem X120 (d:Nat) (h:PA mW b2 bR bB bW bI bQ m ws bad false q):∃ m',Q3d ⟨TA (d + 6),18446744073709551616⟩ (.bool false) (fN bW bB) (pt bQ 0 0) (pt bI 0 0) (pt bB 0 0) (pt bR 0 0) (pt b2 0 0) (.int .u8 ((0:Nat):Int)) (pt bW 0 0) m=some (qnV none,m')∧Fb b2 m m':=by
 unfold Q3d
 simp only [Xd,Q5z,X7,Xj]
 rw [if_neg (by decide)]
 obtain ⟨m3,t1,t2,t3⟩:=h.setB true
 obtain ⟨m4,z1,z2⟩:=ask7 ⟨TA (d + 6),18446744073709551616⟩ (t2.weaken _)
 refine ⟨m4,?_,t3.trans z2⟩
 rw [t1,Xg]
 exact z1
end Go.Ab.Sh

set_option maxRecDepth 100000
namespace Go.Ab.Sh
open Go Go.Ab Go.Lib
variable {mW:Mem} {b2 bR bB bW bI bQ:Nat} {m:Mem} {ws:List Str} {bad dead:Bool} {q:QN}
theorem X6x (c:UInt8) (l:List Str):(Xz [c] l.tail).length ≤ (Xz [c] l).length:=by
 match l with
 | []=>exact Nat.le_refl _
 | [a]=>exact Nat.zero_le _
 | a :: b :: l =>
  have e:Xz [c] (a :: b :: l)=a ++ c :: Xz [c] (b :: l):=by simp [Xz,List.intercalate,List.intersperse]
  rw [e]
  simp only [List.tail_cons,List.length_append,List.length_cons]
  omega
theorem X126 (G:Gt) (g2:m.get b2=some (.cells Qc 0 0 false tyA)) (gQ:m.get bQ=some (.cells (qC q) 0 0 false tyA)) (c:Bool):∃ m',Q7p G (.bool c) (pt b2 0 0) (pt bQ 0 0) m=some (qnV (if c=true then none else some q),m')∧Fb b2 m m':=by
 unfold Q7p
 cases c with
 | true =>
  obtain ⟨m',k1,k2,_⟩:=X2j (n:=22) (tail:=[.int .i64 4]) (vs:=qC q0) g2 rfl rfl rfl (Nat.le_refl b2)
  refine ⟨m',?_,k2⟩
  rw [Xh,aBa undef,X7]
  exact k1
 | false =>
  obtain ⟨m',k1,k2,_⟩:=X2j (n:=22) (tail:=[.int .i64 0]) (vs:=qC q) g2 rfl rfl rfl (Nat.le_refl b2)
  refine ⟨m',?_,k2⟩
  have hl:X4 true 22 (pt bQ 0 0) m=some (qV q):=X10 gQ (by show 22 ≤ 22; omega) rfl
  rw [Xd,hl,X7]
  exact k1
theorem X12p (G:Gt) (h:PA mW b2 bR bB bW bI bQ m ws bad false q) (c:Bool):∃ m7 m8,X8 1 (pt bR 0 0) (.slice none 0 0) m=some m7∧X8 1 (pt bB 0 0) (.bool c) m7=some m8 ∧
  ∃ m',Qi G (pt bB 0 0) (pt bR 0 0) (pt b2 0 0) (pt bQ 0 0) m8=some (qnV (if c=true then none else some q),m')∧Fb b2 m m':=by
 obtain ⟨v,g1,gr⟩:=h.a.gR
 obtain ⟨cs,j1,j2,j3⟩:=h.gQ
 have:=j3 rfl
 subst this
 have e1:=h.a.lR
 have e2:=h.a.lB
 have e3:=h.w2
 have e4:=h.a.nx
 have u1:=h.q1
 have u2:=h.q2
 have u3:=h.a.rb
 have e5:=h.a.nB
 have e6:=h.a.nR
 obtain ⟨m7,s1,s2,s3,s4,s5⟩:=X5x (W:=[bR]) (o:=0) (n:=1) (cs':=[.slice none 0 0]) (Fr.refl _ m) gr (.slice none 0 0) rfl rfl (by show 1 ≤ 1; omega) rfl (.inl (by simp))
 have gb:m7.get bB=some (.cells [.bool bad] 0 0 false tyB):=by rw [s5 _ (fun e=>u3 e.symm)]; exact h.a.gB
 obtain ⟨m8,t1,t2,t3,t4,t5⟩:=X5x (W:=[bB]) (o:=0) (n:=1) (cs':=[.bool c]) (Fr.refl _ m7) gb (.bool c) rfl rfl (by show 1 ≤ 1; omega) rfl (.inl (by simp))
 have F:Fb b2 m m8:=(s2.toFbW (by simp; omega) (by omega)).trans (t2.toFbW (by simp; omega) (by omega))
 have ldb:X4 false 1 (pt bB 0 0) m8=some (.bool c):=Xt t4 rfl
 have ldr:X4 false 1 (pt bR 0 0) m8=some (.slice none 0 0):=Xt (by rw [t5 _ u3]; exact s4) rfl
 have g2:m8.get b2=some (.cells Qc 0 0 false tyA):=by rw [t5 _ (by omega),s5 _ (by omega)]; exact h.g2
 have gQ:m8.get bQ=some (.cells (qC q) 0 0 false tyA):=by rw [t5 _ u2,s5 _ u1]; exact j1
 refine ⟨m7,m8,s1,t1,?_⟩
 have ln:lenK 1 (.slice none 0 0) m8=some (I 0):=by rw [Xdt]; rfl
 unfold Qi
 simp only [ldb,X7,ldr,ln,Qwd]
 cases c with
 | true =>
  obtain ⟨m',r1,r2⟩:=X126 G g2 gQ true
  exact ⟨m',by rw [Xh]; exact r1,F.trans r2⟩
 | false =>
  obtain ⟨m',r1,r2⟩:=X126 G g2 gQ false
  exact ⟨m',by rw [Xd]; exact r1,F.trans r2⟩
def A16 (ws:List Str) (q:QN):Option QN:=if X1b (ws.headD [])=true∧X1b (ws.tail.headD [])=true then (match num 255 (ws.tail.tail.headD []),prH (Xz [32] ws.tail.tail.tail) with
 | some h,some (a,m,b,n,p)=>some { q with dev:=ws.headD [],ifc:=ws.tail.headD [],hops:=(h:Nat),a:=a,b:=b,p:=p,m:=m,n:=n }
 | _,_=>none) else none
theorem X8z (a b p m n:Nat) (mm:Mem):again (pur (some (hdr a b p m n)) mm) (hdr a b p m n)=true:=Xsj a b p m n mm
theorem X10t (d:Nat) (h:PA mW b2 bR bB bW bI bQ m ws bad false q) (hn:ws.length ≤ 140737488355328) (hj:(Xz [32] ws).length ≤ 4194304) (p35:Value):∃ m',Qd3 ⟨TA (d + 6),18446744073709551616⟩ (.bool true) (fN bW bB) (pt bQ 0 0) (pt bW 0 0) (pt bR 0 0) (pt bB 0 0) (pt b2 0 0) p35 (pt bI 0 0) m=some (qnV (resA bad (A16 ws q)),m')∧Fb b2 m m':=by
 obtain ⟨m1,k1,k2,k3⟩:=h.name d
 rw [Xbr] at k2
 obtain ⟨m2,y1,y2,y3⟩:=k2.name d
 rw [Xbr] at y2
 obtain ⟨m3,s1,s2,s3⟩:=y2.put false { q with dev:=ws.headD [] } 1 1 (sv (ws.headD [])) rfl rfl (by omega) (fun _=>⟨rfl,rfl⟩)
 have s1:X8 1 (pt bQ (0 + 1) 0) (sv (ws.headD [])) m2=some m3:=s1
 obtain ⟨m4,t1,t2,t3⟩:=s2.put false { q with dev:=ws.headD [],ifc:=ws.tail.headD [] } 2 1 (sv (ws.tail.headD [])) rfl rfl (by omega) (fun _=>⟨rfl,rfl⟩)
 have t1:X8 1 (pt bQ (0 + 2) 0) (sv (ws.tail.headD [])) m3=some m4:=t1
 obtain ⟨m5,w1,w2,w3⟩:=t2.word d
 have hl:=X4y t2.a.hw
 have cN:TA (d + 6) Q1p [sv (ws.tail.tail.headD []),.int .i64 255] m5=_:=c_lexNumber' (ws.tail.tail.headD []) hl 255 (by omega) (d + 5) m5
 obtain ⟨v,g1,gr⟩:=w2.a.gR
 have hs:SL m5 v ws.tail.tail.tail:=SL.up g1 w2.a.nx w2.a.gt
 have ldr:X4 false 1 (pt bR 0 0) m5=some v:=Xt gr rfl
 have hj3:(Xz [32] ws.tail.tail.tail).length ≤ 4194304:=Nat.le_trans (X6x 32 _) (Nat.le_trans (X6x 32 _) (Nat.le_trans (X6x 32 _) hj))
 have cJ:TA (d + 6) Q2s [v,sv [32]] m5=_:=c_Join v _ [32] m5 hs (by simp; omega) (by omega) (d + 6)
 obtain ⟨T,hT⟩:∃ T,T=Xz [32] ws.tail.tail.tail:=⟨_,rfl⟩
 rw [← hT] at cJ hj3
 have cH:TA (d + 6) Qcy [sv T] m5=_:=c_header T hj3 (d + 1) m5
 obtain ⟨hd,hhd⟩:∃ hd:Nat × Nat × Nat × Nat × Nat,hd=(prH T).getD (0,0,0,0,0):=⟨_,rfl⟩
 obtain ⟨a,mm,b,n,p⟩:=hd
 have hV:hdrV (prH T)=.tuple ⟨[hdr a b p mm n,I (if (prH T).isSome=true then 0 else 4)]⟩:=by
  cases hx:prH T with
  | none=>rw [hx] at hhd; cases hhd; rfl
  | some x=>rw [hx] at hhd; cases hhd; rfl
 rw [hV] at cH
 obtain ⟨m6,x1,x2,x3,x4⟩:=X16 [] m5 (some (2 * Q1 + 1)) Qa (v:=hdr a b p mm n) (n:=5) rfl rfl rfl
 have x1:X8 5 (pt m5.next 0 0) (hdr a b p mm n) (m5.push (.cells Qa 0 0 false (some (2 * Q1 + 1))))=some m6:=x1
 have ldh:∀ mk,mk.get m5.next=some (.cells (hdr a b p mm n).cells.toList 0 0 false (some (2 * Q1 + 1)))→X4 true 5 (pt m5.next 0 0) mk=some (hdr a b p mm n):=fun mk hk=>X10 hk (by show 5 ≤ 5; omega) rfl
 obtain ⟨p6,f6⟩:=w2.frn x2
 let z:Nat:=numV (num 255 (ws.tail.tail.headD []))
 have hb5:bQ < m5.next:=w2.nQ
 obtain ⟨cs,j1,j2,j3⟩:=p6.gQ
 obtain ⟨m7,a1,a2,a3⟩:=p6.put false { q with dev:=ws.headD [],ifc:=ws.tail.headD [],hops:=(z:Nat) } 20 1 (I (z:Nat)) rfl rfl (by omega) (fun _=>⟨rfl,rfl⟩)
 have a1:X8 1 (pt bQ (0 + 20) 0) (I (numV (num 255 (ws.tail.tail.headD [])))) m6=some m7:=a1
 have x5:m7.get m5.next=some (.cells (hdr a b p mm n).cells.toList 0 0 false (some (2 * Q1 + 1))):=by
  obtain ⟨mq,i1,i2,i3,i4,i5⟩:=X5x (W:=[bQ]) (o:=20) (n:=1) (Fr.refl _ m6) j1 (I (z:Nat)) rfl rfl (by omega) rfl (.inl (by simp))
  have i1:X8 1 (pt bQ (0 + 20) 0) (I (numV (num 255 (ws.tail.tail.headD [])))) m6=some mq:=i1
  obtain rfl:mq=m7:=Option.some.inj (i1.symm.trans a1)
  rw [i5 _ (by omega)]
  exact x4
 obtain ⟨m8,c1,c2,c3⟩:=a2.put false { q with dev:=ws.headD [],ifc:=ws.tail.headD [],hops:=(z:Nat),a:=a,b:=b,p:=p,m:=mm,n:=n } 15 5 (hdr a b p mm n) rfl rfl (by omega) (fun _=>⟨rfl,rfl⟩)
 have c1:X8 5 (pt bQ (0 + 15) 0) (hdr a b p mm n) m7=some m8:=c1
 have F8:Fb b2 m m8:=((((((k3.trans y3).trans s3).trans t3).trans w3).trans f6).trans a3).trans c3
 have l6:=ldh m6 x4
 have l7:=ldh m7 x5
 have es:Value.string ⟨#[32]⟩=sv [32]:=rfl
 unfold Qd3
 simp only [Xh,k1,X9,y1,Xy,X7,s1,Xg,t1,t2.ldW,w1,cN,ex0,ex1,ldr,es,cJ,cH]
 have hgo:∀ (X:Mem→Prop) (R:Value) (K:Value→Mem→Option Rs),(∃ m',bp (unt (X8 5 (pt m5.next 0 0) (hdr a b p mm n) (m5.push (.cells Qa 0 0 false (some (2 * Q1 + 1)))))) (fun _ mk=>K (pt m5.next 0 0) mk)=some (R,m')∧X m')→∃ m',bp (some (aNew Q1 Qa m5)) (fun x87 mk=>bp (unt (X8 5 x87 (hdr a b p mm n) mk)) fun _ mk=>K x87 mk)=some (R,m')∧X m':=by
  intro X R K ⟨m',r1,r2⟩
  refine ⟨m',?_,r2⟩
  rw [X13]
  exact r1
 refine hgo _ _ _ ?_
 simp only [x1,Xg,l6,X7,p6.ldB]
 have fin:∀ c:Bool,∃ m',(bp (unt (X8 1 (pt bR 0 0) (.slice none 0 0) m8)) fun _ m=>bp (unt (X8 1 (pt bB 0 0) (.bool c) m)) fun _ m=>Qi ⟨TA (d + 6),18446744073709551616⟩ (pt bB 0 0) (pt bR 0 0) (pt b2 0 0) (pt bQ 0 0) m)=some (qnV (if c=true then none else some { q with dev:=ws.headD [],ifc:=ws.tail.headD [],hops:=(z:Nat),a:=a,b:=b,p:=p,m:=mm,n:=n }),m')∧Fb b2 m m':=by
  intro c
  obtain ⟨m9,m10,d1,d2,m11,d3,d4⟩:=X12p ⟨TA (d + 6),18446744073709551616⟩ c2 c
  exact ⟨m11,by rw [d1,Xg,d2,Xg]; exact d3,F8.trans d4⟩
 -- the flag so far
 obtain ⟨B,hB⟩:∃ B,B=(bad || !X1b (ws.headD []) || !X1b (ws.tail.headD []) || ws.tail.tail.isEmpty):=⟨_,rfl⟩
 rw [← hB]
 have brt_t:∀ {α:Type} (a b s:Option α),brt (.bool true) a b s=a:=fun _ _ _=>rfl
 have brt_f:∀ {α:Type} (a b s:Option α),brt (.bool false) a b s=b:=fun _ _ _=>rfl
 cases B with
 | true =>
  obtain ⟨m',r1,r2⟩:=fin true
  refine ⟨m',?_,r2⟩
  rw [brt_t]
  simp only [a1,Xg,l7,X8z,Bool.and_true,X2h,c1,X7]
  rw [r1]
  congr 3
  unfold resA A16
  cases bad with
  | true=>rfl
  | false =>
   cases n1:X1b (ws.headD []) with
   | false=>simp
   | true =>
    cases n2:X1b (ws.tail.headD []) with
    | false=>simp
    | true =>
     rw [n1,n2] at hB
     have he:ws.tail.tail.headD []=[]:=Xdy (by simpa using hB.symm)
     rw [he,num_nil]
     simp
 | false =>
  have hB:=hB.symm
  simp only [Bool.or_eq_false_iff,Bool.not_eq_false'] at hB
  obtain ⟨⟨⟨rfl,n1⟩,n2⟩,_⟩:=hB
  rw [brt_f]
  unfold resA A16
  rw [if_neg (show ¬ false=true by decide),if_pos (show X1b (ws.headD [])=true∧X1b (ws.tail.headD [])=true from ⟨n1,n2⟩),← hT]
  cases hnn:num 255 (ws.tail.tail.headD []) with
  | none =>
   obtain ⟨m',r1,r2⟩:=fin true
   refine ⟨m',?_,r2⟩
   rw [hnn] at a1
   simp only [Option.isSome_none,X2o,Bool.not_false,X7,brt_t,a1,Xg,l7,X8z,Bool.and_true,X2h,c1]
   exact r1
  | some hh =>
   have hz:z=hh:=by show numV (num 255 (ws.tail.tail.headD []))=hh; rw [hnn]; rfl
   rw [hnn] at a1
   have e0:∀ c:Bool,bin .neq true true .int (I (if c=true then 0 else 4)) (.int .i64 0)=some (.bool !c):=fun c=>by cases c <;> exact Q8k _ _ _ _ _
   obtain ⟨m',r1,r2⟩:=fin (!(prH T).isSome)
   refine ⟨m',?_,r2⟩
   simp only [Option.isSome_some,X2o,Bool.not_true,X7,brt_f,e0,a1,Xg,l7,X8z,Bool.and_true,X2h,c1]
   rw [r1]
   congr 3
   cases hx:prH T with
   | none=>rfl
   | some x =>
    rw [hx] at hhd
    have hhd:(a,mm,b,n,p)=x:=hhd
    subst hhd
    rw [hz]
    rfl
end Go.Ab.Sh

set_option maxRecDepth 100000
namespace Go.Ab.Sh
open Go Go.Ab Go.Lib
variable {mW:Mem} {b2 bR bB bW bI bQ:Nat} {m:Mem} {ws:List Str} {bad dead:Bool} {q:QN}
def askK (k:Nat) (ws:List Str):Option QN:=
 if k=0 then none
 else if k ≤ 3 then A10 ws { q0 with kind:=k }
 else if k=4 then A16 ws { q0 with kind:=4 }
 else if k ≤ 6 then A17 ws { q0 with kind:=k }
 else A17o ws { q0 with kind:=7 }
def askW (ws:List Str):Option QN:=askK (posG 0 kindsL (ws.headD [])) ws.tail
theorem ask9 (d k:Nat) (hk:k ≤ 7) (h:PA mW b2 bR bB bW bI bQ m ws bad false { q0 with kind:=k }) (hn:ws.length ≤ 140737488355328) (hj:(Xz [32] ws).length ≤ 4194304):∃ m',Ql2 ⟨TA (d + 6),18446744073709551616⟩ (.int .u8 (k:Int)) (fN bW bB) (pt bQ 0 0) (pt bW 0 0) (pt bB 0 0) (fP bI bW bB) (pt bI 0 0) (pt bR 0 0) (pt b2 0 0) m=some (qnV (resA bad (askK k ws)),m')∧Fb b2 m m':=by
 have way:k=1∨k=2∨k=3→∃ m',Q4q ⟨TA (d + 6),18446744073709551616⟩ (.bool true) (fN bW bB) (pt bQ 0 0) (pt bW 0 0) (pt bB 0 0) (fP bI bW bB) (pt bI 0 0) (pt bR 0 0) (pt b2 0 0) (.int .u8 (k:Int)) m=some (qnV (resA bad (askK k ws)),m')∧Fb b2 m m':=by
  intro hk3
  have e:askK k ws=A10 ws { q0 with kind:=k }:=by unfold askK; rw [if_neg (by omega),if_pos (by omega)]
  rw [e]
  exact X12o d h (by show k < 256; omega) _
 unfold Ql2
 simp only [Q5z,X7,Xj]
 by_cases k1:k=1
 ·rw [if_pos (by omega),decide_eq_true (by omega:(k:Int)=1)]
  exact way (.inl k1)
 rw [if_neg (by omega)]
 by_cases k2:k=2
 ·rw [if_pos (by omega),decide_eq_true (by omega:(k:Int)=2)]
  exact way (.inr (.inl k2))
 rw [if_neg (by omega)]
 by_cases k3:k=3
 ·rw [decide_eq_true (by omega:(k:Int)=3)]
  exact way (.inr (.inr k3))
 rw [decide_eq_false (by omega:¬ (k:Int)=3)]
 unfold Q4q
 simp only [Xd,Q5z,X7]
 by_cases k4:k=4
 ·subst k4
  rw [decide_eq_true (by decide:((4:Nat):Int)=4)]
  have e:askK 4 ws=A16 ws { q0 with kind:=4 }:=rfl
  rw [e]
  exact X10t d h hn hj _
 rw [decide_eq_false (by omega:¬ (k:Int)=4)]
 unfold Qd3
 simp only [Xd,Q5z,X7,Xj]
 by_cases k5:k=5
 ·rw [if_pos (by omega),decide_eq_true (by omega:(k:Int)=5)]
  have e:askK k ws=A17 ws { q0 with kind:=k }:=by unfold askK; rw [if_neg (by omega),if_neg (by omega),if_neg (by omega),if_pos (by omega)]
  rw [e]
  exact Xy2 d h _
 rw [if_neg (by omega)]
 by_cases k6:k=6
 ·rw [decide_eq_true (by omega:(k:Int)=6)]
  have e:askK k ws=A17 ws { q0 with kind:=k }:=by unfold askK; rw [if_neg (by omega),if_neg (by omega),if_neg (by omega),if_pos (by omega)]
  rw [e]
  exact Xy2 d h _
 rw [decide_eq_false (by omega:¬ (k:Int)=6)]
 by_cases k7:k=7
 ·subst k7
  have e:askK 7 ws=A17o ws { q0 with kind:=7 }:=rfl
  rw [e]
  exact X119 d h
 ·obtain rfl:k=0:=by omega
  have e:resA bad (askK 0 ws)=none:=by unfold resA askK; split <;> rfl
  rw [e]
  exact X120 d h
theorem aBak (k:Nat):X18 Qc [(0,1),(1,1),(2,1),(3,1),(4,1),(5,10),(15,5),(20,1),(21,1)] [(0,(.int .u8 (k:Int)))]=some (qV { q0 with kind:=k }):=Eq.trans rfl rfl
theorem c_askParse (s:Str) (hs:s.length ≤ 4194304) (d:Nat) (m:Mem):TA (d + 7) Q6n [sv s] m=some (qnV (askW (split 32 s)),m):=by
 rw [Xlf]
 let M:=(X3 m m.next).push (.cells Qc 0 0 false tyA)
 have g0:M.get m.next=some (.cells Qc 0 0 false tyA):=X1e (X3 m m.next) _
 have F0:Fb m.next (X3 m m.next) M:=Fb.push _ (Nat.le_refl _)
 have nM:M.next=m.next + 1:=rfl
 have go:∃ m1,Ql3 ⟨TA (d + 6),18446744073709551616⟩ (sv s) (pt m.next 0 0) M=some (qnV (askW (split 32 s)),m1)∧Fb m.next M m1:=by
  obtain ⟨v,mW,w1,w2,w3,_⟩:=c_Split s hs 32 (d + 3) M
  have w1:TA (d + 6) Q2x [sv s,.string ⟨#[32]⟩] M=some (v,mW):=w1
  have hl:(split 32 s).length ≤ 140737488355328:=by
   have:=X95 32 s.length s (Nat.le_refl _)
   have:=List.count_le_length (a:=(32:UInt8)) (l:=s)
   omega
  have hj:(Xz [32] (split 32 s)).length ≤ 4194304:=by
   have:=(split_eq_iff.mp (rfl:split 32 s=split 32 s)).2.1
   rw [← this]; exact hs
  have hw:∀ w ∈ split 32 s,w.length ≤ 4194304:=fun w hw=>by have:=X4e 32 s w hw; omega
  generalize split 32 s=ws at *
  have gW:mW.get m.next=some (.cells Qc 0 0 false tyA):=by rw [w2.get _ (by omega) (by simp)]; exact g0
  have nW:=w2.next
  have FW:Fb m.next M mW:=w2.toFb (by omega)
  obtain ⟨vc,vo⟩:=Xne w3
  -- the variables
  let mP:=(mW.push (.cells [(.slice none 0 0)] 0 0 false tyR)).push (.cells [(.bool false)] 0 0 false tyB)
  have nP:mP.next=mW.next + 2:=rfl
  have fP:Fr [] mW mP:=(Fr.push _).trans (Fr.push _)
  have gR0:mP.get mW.next=some (.cells [(.slice none 0 0)] 0 0 false tyR):=by
   show ((mW.push (.cells [(.slice none 0 0)] 0 0 false tyR)).push (.cells [(.bool false)] 0 0 false tyB)).get mW.next=_
   rw [Mem.get_push,if_neg (by show ¬ mW.next + 1=mW.next; omega),Mem.get_push,if_pos rfl]
  have gB0:mP.get (mW.next + 1)=some (.cells [(.bool false)] 0 0 false tyB):=X1e (mW.push (.cells [(.slice none 0 0)] 0 0 false tyR)) _
  obtain ⟨m1,s1,f1,n1,r1,o1⟩:=X5x (W:=[]) (o:=0) (n:=1) (cs':=[v]) fP gR0 v (by rw [vc]; rfl) (by rw [vc]; simp [vo]) (by show 1 ≤ 1; omega) (by rw [vc]; rfl) (.inr (Nat.le_refl _))
  have gB1:m1.get (mW.next + 1)=some (.cells [(.bool false)] 0 0 false tyB):=by rw [o1 _ (by omega)]; exact gB0
  obtain ⟨m2,s2,f2,n2,r2,o2⟩:=X5x (W:=[]) (o:=0) (n:=1) (cs':=[.bool false]) f1 gB1 (.bool false) rfl rfl (by show 1 ≤ 1; omega) rfl (.inr (by omega))
  have gR2:m2.get mW.next=some (.cells [v] 0 0 false tyR):=by rw [o2 _ (by omega)]; exact r1
  have nn2:m2.next=mW.next + 2:=by rw [n2,n1,nP]
  obtain ⟨m3,s3,f3,n3,r3⟩:=X16 [] m2 tyW [.nilFunc] (v:=fW mW.next (mW.next + 1)) (n:=1) rfl rfl rfl
  obtain ⟨m4,s4,f4,n4,r4⟩:=X16 [] m3 tyI [.nilFunc] (v:=fI mW.next) (n:=1) rfl rfl rfl
  have f24:Fr [] m2 m4:=f3.trans f4
  have fW4:Fr [] mW m4:=f2.trans f24
  rw [nn2] at r3 s3 n3
  rw [n3] at r4 s4 n4
  have hA:AS mW mW.next (mW.next + 1) (mW.next + 2) (mW.next + 2 + 1) m4 ws false:={
   nx:=fW4.next
   gt:=fun b hb=>fW4.get b hb (by simp)
   gR:=⟨v,w3,by rw [f24.get _ (by omega) (by simp)]; exact gR2⟩
   gB:=by rw [f24.get _ (by omega) (by simp)]; exact r2
   gW:=by rw [f4.get _ (by omega) (by simp)]; exact r3
   gI:=r4
   hw:=hw
   lR:=by omega
   lB:=by omega
   lW:=by omega
   lI:=by omega
   nR:=by omega
   nB:=by omega
   nW:=by omega
   nI:=by omega
   rb:=by omega
   wr:=by omega
   wb:=by omega
   ir:=by omega
   ib:=by omega }
  obtain ⟨m5,u1,u2,u3⟩:=c_word hA (d + 5)
  have u1:Xi (TA (d + 6)) (fW mW.next (mW.next + 1)) [] m4=some (sv (ws.headD []),m5):=u1
  have n5:=u2.next
  have hpos:=Xa4 kindsL 0 (ws.headD [])
  have hkl:kindsL.length=7:=rfl
  have cp:TA (d + 6) Q3o [sv X6j,sv (ws.headD [])] m5=some (I (posG 0 kindsL (ws.headD []):Nat),m5):=c_placeK (ws.headD []) (d + 4) m5
  have hE:askW ws=askK (posG 0 kindsL (ws.headD [])) ws.tail:=rfl
  have hnone:ws=[]→askW ws=none:=by rintro rfl; rfl
  rw [hE] at hnone ⊢
  generalize posG 0 kindsL (ws.headD [])=k at *
  have wr:IntKind.u8.wrap (k:Int)=(k:Int):=by rw [IntWalk.u8_in _ (by omega)]
  obtain ⟨m6,t1,t2,t3,t4⟩:=X16 [] m5 tyA Qc (v:=qV { q0 with kind:=k }) (n:=22) rfl rfl rfl
  have hA6:=u3.frW t2 (by simp)
  have f5:Fb m.next M m5:=(FW.trans (fW4.toFb (by omega))).trans (u2.toFbW (by simp; omega) (by omega))
  have f6:Fb m.next M m6:=f5.trans (t2.toFb (by omega))
  have hP:PA mW m.next mW.next (mW.next + 1) (mW.next + 2) (mW.next + 2 + 1) m5.next m6 ws.tail (false || ws.isEmpty) false { q0 with kind:=k }:={
   a:=hA6
   g2:=by rw [t2.get _ (by omega) (by simp),u2.get _ (by omega) (by simp; omega),fW4.get _ (by omega) (by simp)]; exact gW
   gQ:=⟨_,t4,rfl,fun _=>rfl⟩
   w2:=by omega
   wQ:=by omega
   nQ:=by omega
   q1:=by omega
   q2:=by omega
   q3:=by omega
   q4:=by omega }
  have l0:X4 false 1 (pt m5.next (0 + 0) 0) m6=some (.int .u8 (k:Int)):=Xt t4 rfl
  obtain ⟨m7,z1,z2⟩:=ask9 d k (by omega) hP (by simp; omega) (Nat.le_trans (X6x 32 _) hj)
  refine ⟨m7,?_,f6.trans z2⟩
  have hres:resA (false || ws.isEmpty) (askK k ws.tail)=askK k ws.tail:=by
   cases he:ws.isEmpty with
   | false=>rfl
   | true=>rw [hnone (by simpa using he)]; rfl
  rw [hres] at z1
  have ld3:X4 false 1 (pt (mW.next + 2) 0 0) m4=some (fW mW.next (mW.next + 1)):=Xt hA.gW rfl
  unfold Ql3 Qs4 Qs3 Qs2 Qs1 Qs0 Qrz
  dsimp only
  rw [w1,X9,X13,X13]
  have s1:X8 1 (pt mW.next 0 0) v ((mW.push (.cells [(.slice none 0 0)] 0 0 false tyR)).push (.cells [(.bool false)] 0 0 false tyB))=some m1:=s1
  show bp (unt (X8 1 (pt mW.next 0 0) v ((mW.push (.cells [(.slice none 0 0)] 0 0 false tyR)).push (.cells [(.bool false)] 0 0 false tyB)))) _=_
  rw [s1,Xg]
  have s2:X8 1 (pt (mW.push (.cells [(.slice none 0 0)] 0 0 false tyR)).next 0 0) (.bool false) m1=some m2:=s2
  rw [s2,Xg,X13]
  rw [show m2.next=mW.next + 2 from nn2]
  have s3:X8 1 (pt (mW.next + 2) 0 0) (.func (.func Qan) ⟨[]⟩ ⟨[pt mW.next 0 0,pt (mW.push (.cells [(.slice none 0 0)] 0 0 false tyR)).next 0 0]⟩) (m2.push (.cells [.nilFunc] 0 0 false (some (2 * Qrw + 1))))=some m3:=s3
  rw [s3,Xg,X13]
  rw [show m3.next=mW.next + 2 + 1 from n3]
  have s4:X8 1 (pt (mW.next + 2 + 1) 0 0) (.func (.func Qao) ⟨[]⟩ ⟨[pt mW.next 0 0]⟩) (m3.push (.cells [.nilFunc] 0 0 false (some (2 * Qjb + 1))))=some m4:=s4
  rw [s4,Xg,ld3,X7,u1,X9]
  show bp (TA (d + 6) Q3o [sv X6j,sv (ws.headD [])] m5) _=_
  rw [cp,X9]
  rw [show conv (.int .u8) (I (k:Nat)) m5=some (.int .u8 (k:Int),m5) by rw [c_int,wr],X9,aBak,X7,X13]
  have t1:X8 22 (pt m5.next 0 0) (qV { q0 with kind:=k }) (m5.push (.cells Qc 0 0 false (some (2 * Qy + 1))))=some m6:=t1
  rw [t1,Xg,Xy,X7,l0,X7]
  exact z1
 obtain ⟨m1,k1,k2⟩:=go
 refine X2a (m1:=m1) ?_ (F0.trans k2) (Xvn _ _)
 unfold Qg8
 rw [X13]
 exact k1
end Go.Ab.Sh

set_option maxRecDepth 100000
namespace Go.Ab
open Go Go.Lib Go.Ab.Sh
theorem Xmx {ws:List Str} {w:Str} (h:ws.head?=some w) (ht:ws.tail ≠ []):ws=w :: ws.tail.headD [] :: ws.tail.tail:=by
 match ws,h,ht with
 | [],h,_=>cases h
 | [a],_,ht=>exact absurd rfl ht
 | a :: b :: l,h,_ =>
  have:a=w:=by simpa using h
  subst this
  rfl
theorem X7s {ws:List Str} (h:ws ≠ []):ws=ws.headD [] :: ws.tail:=by
 cases ws with
 | nil=>exact absurd rfl h
 | cons a l=>rfl
theorem Xcj {ws:List Str} {q q':QN} (h:A7 ws q=some q'):ws=[]∧q'=q:=by
 unfold A7 at h
 split at h
 ·rename_i e; cases h; exact ⟨e,rfl⟩
 ·cases h
theorem Xo0 {l:List Str} {x:Nat × Nat} (h:X21 (l.headD [])=some x):l ≠ []:=by
 rintro rfl
 cases h
theorem Xnd {ws:List Str} {q q':QN} (d1:q.r.dl=0) (d2:q.r.dh=65535) (h:A15 ws q=some q'):∃ dl dh,dl ≤ dh∧dh ≤ 65535∧q'={ q with r:={ q.r with dl:=dl,dh:=dh } }∧ws=optW (cD q'.r) dportsW (X17 dl dh):=by
 unfold A15 at h
 split at h
 ·rename_i hx
  split at h
  ·cases h
  ·rename_i a b hp
   obtain ⟨h7,rfl⟩:=Xcj h
   obtain ⟨e1,e2,e3,e4⟩:=portsP_iff.mp hp
   refine ⟨a,b,e2,e3,rfl,?_⟩
   have hc:cD { q.r with dl:=a,dh:=b }=true:=by
    unfold cD
    exact decide_eq_true (by simp only; omega)
   rw [Xmx hx (Xo0 hp),h7,e1]
   show _=optW (cD { q.r with dl:=a,dh:=b }) dportsW (X17 a b)
   rw [hc]
   rfl
 ·obtain ⟨h7,rfl⟩:=Xcj h
  refine ⟨0,65535,by omega,by omega,?_,?_⟩
  ·obtain ⟨k,dv,ic,vr,en,r,a,b,p,m,n,ho,ad⟩:=q'
   obtain ⟨pm,pr,sa,sb,da,db,sl,sh,dl,dh⟩:=r
   simp only at d1 d2
   subst d1 d2
   rfl
  ·have hc:cD q'.r=false:=by
    unfold cD
    exact decide_eq_false (by rw [d1,d2]; decide)
   rw [hc,h7]
   rfl
theorem Xn3 {ws:List Str} {q q':QN} (s1:q.r.sl=0) (s2:q.r.sh=65535) (d1:q.r.dl=0) (d2:q.r.dh=65535) (h:A14 ws q=some q'):∃ sl sh dl dh,sl ≤ sh∧sh ≤ 65535∧dl ≤ dh∧dh ≤ 65535∧q'={ q with r:={ q.r with sl:=sl,sh:=sh,dl:=dl,dh:=dh } }∧ws=optW (cS q'.r) sportsW (X17 sl sh) ++ optW (cD q'.r) dportsW (X17 dl dh):=by
 unfold A14 at h
 split at h
 ·rename_i hx
  split at h
  ·cases h
  ·rename_i a b hp
   obtain ⟨dl,dh,c1,c2,rfl,c4⟩:=Xnd (by exact d1) (by exact d2) h
   obtain ⟨e1,e2,e3,e4⟩:=portsP_iff.mp hp
   refine ⟨a,b,dl,dh,e2,e3,c1,c2,rfl,?_⟩
   have hc:cS { q.r with sl:=a,sh:=b,dl:=dl,dh:=dh }=true:=by
    unfold cS
    exact decide_eq_true (by simp only; omega)
   rw [Xmx hx (Xo0 hp),c4,e1]
   show _=optW (cS { q.r with sl:=a,sh:=b,dl:=dl,dh:=dh }) sportsW (X17 a b) ++ _
   rw [hc]
   rfl
 ·obtain ⟨dl,dh,c1,c2,rfl,c4⟩:=Xnd d1 d2 h
  refine ⟨0,65535,dl,dh,by omega,by omega,c1,c2,?_,?_⟩
  ·obtain ⟨k,dv,ic,vr,en,r,a,b,p,m,n,ho,ad⟩:=q
   obtain ⟨pm,pr,sa,sb,da,db,sl,sh,dl,dh⟩:=r
   simp only at s1 s2
   subst s1 s2
   rfl
  ·have hc:cS { q.r with dl:=dl,dh:=dh }=false:=by
    unfold cS
    exact decide_eq_false (by simp only; rw [s1,s2]; decide)
   show _=optW (cS { q.r with dl:=dl,dh:=dh }) _ _ ++ _
   rw [hc]
   exact c4
theorem Xxp {l:List Str} {n:Nat} (h:num 255 (l.headD [])=some n):l ≠ []:=by
 rintro rfl
 rw [show ([]:List Str).headD []=[] from rfl,num_nil] at h
 cases h
theorem Xw6 {ws:List Str} {q q':QN} (p1:q.r.proto=-1) (s1:q.r.sl=0) (s2:q.r.sh=65535) (d1:q.r.dl=0) (d2:q.r.dh=65535) (h:A13 ws q=some q'):∃ (pr:Int) (sl sh dl dh:Nat),(pr=-1∨(0 ≤ pr∧pr ≤ 255))∧sl ≤ sh∧sh ≤ 65535∧dl ≤ dh∧dh ≤ 65535∧q'={ q with r:={ q.r with proto:=pr,sl:=sl,sh:=sh,dl:=dl,dh:=dh } }∧ws=optW (cP q'.r) protoW (itoa pr) ++ (optW (cS q'.r) sportsW (X17 sl sh) ++ optW (cD q'.r) dportsW (X17 dl dh)):=by
 unfold A13 at h
 split at h
 ·rename_i hx
  split at h
  ·cases h
  ·rename_i n hp
   obtain ⟨sl,sh,dl,dh,c1,c2,c3,c4,rfl,c6⟩:=Xn3 (by exact s1) (by exact s2) (by exact d1) (by exact d2) h
   obtain ⟨e1,e2⟩:=num_some.mp hp
   refine ⟨(n:Nat),sl,sh,dl,dh,.inr ⟨by omega,by omega⟩,c1,c2,c3,c4,rfl,?_⟩
   have hc:cP { q.r with proto:=(n:Nat),sl:=sl,sh:=sh,dl:=dl,dh:=dh }=true:=by
    unfold cP
    exact decide_eq_true (by show ((n:Nat):Int) ≠ -1; omega)
   rw [Xmx hx (Xxp hp),c6,e1,X3d]
   show _=optW (cP { q.r with proto:=(n:Nat),sl:=sl,sh:=sh,dl:=dl,dh:=dh }) _ _ ++ _
   rw [hc]
   rfl
 ·obtain ⟨sl,sh,dl,dh,c1,c2,c3,c4,rfl,c6⟩:=Xn3 s1 s2 d1 d2 h
  refine ⟨-1,sl,sh,dl,dh,.inl rfl,c1,c2,c3,c4,?_,?_⟩
  ·obtain ⟨k,dv,ic,vr,en,r,a,b,p,m,n,ho,ad⟩:=q
   obtain ⟨pm,pr,sa,sb,da,db,sl,sh,dl,dh⟩:=r
   simp only at p1
   subst p1
   rfl
  ·have hc:cP { q.r with sl:=sl,sh:=sh,dl:=dl,dh:=dh }=false:=by
    unfold cP
    exact decide_eq_false (by simp only; rw [p1]; decide)
   show _=optW (cP { q.r with sl:=sl,sh:=sh,dl:=dl,dh:=dh }) _ _ ++ _
   rw [hc]
   exact c6
theorem Xjv {x:Str} {ws ws':List Str} {a b:Nat} (h:prfO x ws=some (a,b,ws')):(a < 4294967296∧b ≤ 32∧a % 2 ^ (32 - b)=0)∧ws=optW (decide (((b:Nat):Int) ≠ 0)) x (X1o a (b:Nat)) ++ ws':=by
 unfold prfO at h
 split at h
 ·rename_i hx
  split at h
  ·rename_i hc
   cases h
   obtain ⟨e1,e2,e3,e4⟩:=prefP_iff.mp (show X2v (ws.tail.headD [])=((X2v (ws.tail.headD [])).1,(X2v (ws.tail.headD [])).2.1,0) by rw [← hc.1])
   have hne:ws.tail ≠ []:=by
    intro e
    rw [e] at hc
    exact absurd hc.1 (by decide)
   refine ⟨⟨e2,e3,e4⟩,?_⟩
   have hd:decide ((((X2v (ws.tail.headD [])).2.1:Nat):Int) ≠ 0)=true:=decide_eq_true (by have:=hc.2; omega)
   rw [hd,← e1]
   exact Xmx hx hne
  ·cases h
 ·cases h
  exact ⟨⟨by omega,by omega,rfl⟩,rfl⟩
theorem Xoj {ws:List Str} {q q':QN} (hr:q.r=rlH) (h:A12 ws q=some q'):∃ r,GoodR r∧q'={ q with r:=r }∧ws=X20 r:=by
 unfold A12 at h
 cases ho:prfO fromW ws with
 | none=>rw [ho] at h; cases h
 | some x =>
  obtain ⟨a,b,ws1⟩:=x
  rw [ho] at h
  simp only at h
  cases ho2:prfO toW ws1 with
  | none=>rw [ho2] at h; cases h
  | some y =>
   obtain ⟨c,e,ws2⟩:=y
   rw [ho2] at h
   simp only at h
   obtain ⟨⟨f1,f2,f3⟩,f4⟩:=Xjv ho
   obtain ⟨⟨g1,g2,g3⟩,g4⟩:=Xjv ho2
   obtain ⟨pr,sl,sh,dl,dh,c1,c2,c3,c4,c5,rfl,c7⟩:=Xw6 (by show q.r.proto=-1; rw [hr]; rfl) (by show q.r.sl=0; rw [hr]; rfl) (by show q.r.sh=65535; rw [hr]; rfl) (by show q.r.dl=0; rw [hr]; rfl) (by show q.r.dh=65535; rw [hr]; rfl) h
   refine ⟨⟨true,pr,a,(b:Nat),c,(e:Nat),sl,sh,dl,dh⟩,⟨rfl,c1,⟨by simp only; omega,by simp only; omega⟩,f1,f3,⟨by simp only; omega,by simp only; omega⟩,g1,g3,c2,c3,c4,c5⟩,?_,?_⟩
   ·rw [hr]
    rfl
   ·rw [f4,g4,c7]
    unfold X20
    simp only [List.append_assoc]
    rfl
end Go.Ab

set_option maxRecDepth 100000
namespace Go.Ab
open Go Go.Lib Go.Ab.Sh
theorem Xh7:∀ (ws:List Str) (i:Nat) (s:Str),posG i ws s ≠ 0→∃ j,posG i ws s=i + j + 1∧ws[j]?=some s
 | [],i,s,h=>absurd rfl h
 | w :: ws,i,s,h=>by
  unfold posG at h ⊢
  by_cases e:s=w
  ·rw [if_pos e]
   exact ⟨0,rfl,by rw [e]; rfl⟩
  ·rw [if_neg e] at h ⊢
   obtain ⟨j,h1,h2⟩:=Xh7 ws (i + 1) s h
   exact ⟨j + 1,by omega,h2⟩
theorem Xyl {s:Str} (h:posG 0 kindsL s ≠ 0):s=X1h (posG 0 kindsL s):=by
 obtain ⟨j,h1,h2⟩:=Xh7 kindsL 0 s h
 unfold X1h
 rw [h1,show 0 + j + 1 - 1=j by omega,List.getD_eq_getElem?_getD,h2]
 rfl
theorem X123 {s:Str} (h:posG 0 endsL s ≠ 0):s=endW (posG 0 endsL s):=by
 obtain ⟨j,h1,h2⟩:=Xh7 endsL 0 s h
 unfold endW
 rw [h1,show 0 + j + 1 - 1=j by omega,List.getD_eq_getElem?_getD,h2]
 rfl
theorem Xan {l:List Str} (h:X1b (l.headD [])=true):l ≠ []:=by
 rintro rfl
 cases h
theorem X11h {l:List Str} (h:posG 0 endsL (l.headD []) ≠ 0):l ≠ []:=by
 rintro rfl
 exact absurd rfl h
theorem Xzd {l:List Str} (h:posG 0 kindsL (l.headD []) ≠ 0):l ≠ []:=by
 rintro rfl
 exact absurd rfl h
theorem Xvs {ws:List Str} {q:QN} (h32:∀ w ∈ ws,(32:UInt8) ∉ w) (h:askW ws=some q):GoodQ q∧ws=X1s q:=by
 unfold askW askK at h
 have hpos:=Xa4 kindsL 0 (ws.headD [])
 have hkl:kindsL.length=7:=rfl
 by_cases k0:posG 0 kindsL (ws.headD [])=0
 ·rw [if_pos k0] at h; cases h
 rw [if_neg k0] at h
 have hk:=Xyl k0
 have hws:=X7s (Xzd k0)
 generalize posG 0 kindsL (ws.headD [])=k at *
 generalize ws.headD []=w at *
 subst hk
 have h32':∀ x ∈ ws.tail,(32:UInt8) ∉ x:=fun x hx=>h32 x (List.mem_of_mem_tail hx)
 generalize ws.tail=l at *
 subst hws
 clear h32
 by_cases k3:k ≤ 3
 ·rw [if_pos k3] at h
  unfold A10 at h
  split at h
  ·rename_i hn
   have e1:=X7s (Xan hn.1)
   have e2:=X7s (Xan hn.2)
   unfold A11 at h
   simp only at h
   by_cases kk:k < 3
   ·rw [if_pos kk] at h
    split at h
    ·cases h
    ·rename_i he
     have e3:=X7s (X11h he)
     have e4:=X123 he
     obtain ⟨r,hr,rfl,e5⟩:=Xoj rfl h
     have hel:=Xa4 endsL 0 (l.tail.tail.headD [])
     have hll:endsL.length=7:=rfl
     refine ⟨GoodQ.way k (l.headD []) (l.tail.headD []) (posG 0 endsL (l.tail.tail.headD [])) r (by omega) hn.1 hn.2 (by omega) (by omega) hr,?_⟩
     unfold X1s
     rw [if_pos (show k ≤ 2 by omega)]
     show X1h k :: l=X1h k :: l.headD [] :: l.tail.headD [] :: endW _ :: X20 r
     rw [← e4,← e5,← e3,← e2,← e1]
   ·rw [if_neg kk] at h
    obtain ⟨r,hr,rfl,e5⟩:=Xoj rfl h
    obtain rfl:k=3:=by omega
    refine ⟨GoodQ.loop _ _ r hn.1 hn.2 hr,?_⟩
    show X1h 3 :: l=X1h 3 :: l.headD [] :: l.tail.headD [] :: X20 r
    rw [← e5,← e2,← e1]
  ·cases h
 rw [if_neg k3] at h
 by_cases k4:k=4
 ·rw [if_pos k4] at h
  subst k4
  unfold A16 at h
  split at h
  ·rename_i hn
   have e1:=X7s (Xan hn.1)
   have e2:=X7s (Xan hn.2)
   split at h
   ·rename_i hh a m b n p f1 f2
    cases h
    have e3:=X7s (Xxp f1)
    obtain ⟨g1,g2⟩:=num_some.mp f1
    have hb:=prH_iff.mp f2
    refine ⟨GoodQ.trace _ _ hh a b p m n hn.1 hn.2 g2 hb.2,?_⟩
    have e4:l.tail.tail.tail=[endT a m,endT b n,decDigits p]:=by
     have hne:l.tail.tail.tail ≠ []:=by
      intro e
      rw [e] at f2
      cases f2
     have s1:split 32 (Xz [32] l.tail.tail.tail)=l.tail.tail.tail:=split_eq_iff.mpr ⟨hne,rfl,fun w hw=>h32' w (List.mem_of_mem_tail (List.mem_of_mem_tail (List.mem_of_mem_tail hw)))⟩
     rw [← s1,hb.1,Xgw,X69 _ (X73 a m),X69 _ (X73 b n),Xcv (X37 p 32 d32)]
    show X1h 4 :: l=X1h 4 :: l.headD [] :: l.tail.headD [] :: itoa (hh:Nat) :: [endT a m,endT b n,decDigits p]
    rw [X3d,← g1,← e4,← e3,← e2,← e1]
   ·cases h
  ·cases h
 rw [if_neg k4] at h
 by_cases k6:k ≤ 6
 ·rw [if_pos k6] at h
  unfold A17 at h
  split at h
  ·rename_i hn
   have e1:=X7s (Xan hn)
   split at h
   ·rename_i hv
    split at h
    ·rename_i hn2
     obtain ⟨h7,rfl⟩:=Xcj h
     have e2:=X7s (Xan hn2)
     have hne:l.tail ≠ []:=by intro e; rw [e] at hv; cases hv
     have e3:l.tail=vrfW :: l.tail.tail:=by
      cases hl:l.tail with
      | nil=>exact absurd hl hne
      | cons a b=>rw [hl] at hv; simp at hv; subst hv; rfl
     refine ⟨GoodQ.tableV k _ _ (by omega) hn hn2,?_⟩
     unfold X1s
     rw [if_neg (show ¬ k ≤ 2 by omega),if_neg (show ¬ k=3 by omega),if_neg k4,if_pos k6,if_pos (Xhg hn2)]
     show X1h k :: l=[X1h k,l.headD [],vrfW,l.tail.tail.headD []]
     rw [h7] at e2
     rw [← e2,← e3,← e1]
    ·cases h
   ·obtain ⟨h7,rfl⟩:=Xcj h
    refine ⟨GoodQ.table k _ (by omega) hn,?_⟩
    have hT:X1s { q0 with kind:=k,dev:=l.headD [] }=[X1h k,l.headD []]:=by
     unfold X1s
     rw [if_neg (show ¬ k ≤ 2 by omega),if_neg (show ¬ k=3 by omega),if_neg (show ¬ k=4 by omega),if_pos (show k ≤ 6 by omega)]
     rfl
    refine Eq.trans ?_ hT.symm
    rw [h7] at e1
    rw [← e1]
  ·cases h
 rw [if_neg k6] at h
 obtain rfl:k=7:=by omega
 unfold A17o at h
 split at h
 ·cases h
 ·rename_i a ha
  obtain ⟨h7,rfl⟩:=Xcj h
  obtain ⟨g1,g2⟩:=addrP_iff.mp ha
  have hne:l ≠ []:=by
   rintro rfl
   rw [show ([]:List Str).headD []=[] from rfl,Xj3] at ha
   cases ha
  have e1:=X7s hne
  refine ⟨GoodQ.owner a g2,?_⟩
  show X1h 7 :: l=[X1h 7,X1z a]
  rw [h7,g1] at e1
  rw [e1]
end Go.Ab

set_option maxRecDepth 100000
namespace Go.Ab
open Go Go.Lib Go.Ab.Sh
theorem X70 (c:Bool) (w v:Str) (rest:List Str):(optW c w v ++ rest).head?=if c=true then some w else rest.head?:=by
 cases c <;> rfl
theorem X94 (c:Bool) (w v:Str):(optW c w v).head?=if c=true then some w else none:=by
 cases c <;> rfl
theorem X11r {dl dh:Nat} (h1:dl ≤ dh) (h2:dh ≤ 65535) {q:QN} (d1:q.r.dl=0) (d2:q.r.dh=65535):A15 (optW (decide (dl ≠ 0∨dh ≠ 65535)) dportsW (X17 dl dh)) q=some { q with r:={ q.r with dl:=dl,dh:=dh } }:=by
 by_cases hc:dl ≠ 0∨dh ≠ 65535
 ·rw [decide_eq_true hc]
  show A15 [dportsW,X17 dl dh] q=_
  unfold A15
  rw [if_pos (show ([dportsW,X17 dl dh]:List Str).head?=some dportsW from rfl)]
  show (match X21 (X17 dl dh) with | none=>none | some (a,b)=>A7 [] { q with r:={ q.r with dl:=a,dh:=b } })=_
  rw [portsP_iff.mpr ⟨rfl,h1,h2,by omega⟩]
  rfl
 ·rw [decide_eq_false hc]
  simp only [not_or,Decidable.not_not] at hc
  obtain ⟨rfl,rfl⟩:=hc
  obtain ⟨k,dv,ic,vr,en,r,a,b,p,m,n,ho,ad⟩:=q
  obtain ⟨pm,pr,sa,sb,da,db,sl,sh,dl,dh⟩:=r
  simp only at d1 d2
  subst d1 d2
  rfl
theorem X10s {sl sh dl dh:Nat} (s1:sl ≤ sh) (s2:sh ≤ 65535) (h1:dl ≤ dh) (h2:dh ≤ 65535) {q:QN} (e1:q.r.sl=0) (e2:q.r.sh=65535) (d1:q.r.dl=0) (d2:q.r.dh=65535):A14 (optW (decide (sl ≠ 0∨sh ≠ 65535)) sportsW (X17 sl sh) ++ optW (decide (dl ≠ 0∨dh ≠ 65535)) dportsW (X17 dl dh)) q=some { q with r:={ q.r with sl:=sl,sh:=sh,dl:=dl,dh:=dh } }:=by
 by_cases hc:sl ≠ 0∨sh ≠ 65535
 ·rw [decide_eq_true hc]
  show A14 (sportsW :: X17 sl sh :: optW (decide (dl ≠ 0∨dh ≠ 65535)) dportsW (X17 dl dh)) q=_
  unfold A14
  rw [if_pos (show (sportsW :: X17 sl sh :: optW (decide (dl ≠ 0∨dh ≠ 65535)) dportsW (X17 dl dh)).head?=some sportsW from rfl)]
  show (match X21 (X17 sl sh) with | none=>none | some (a,b)=>A15 (optW (decide (dl ≠ 0∨dh ≠ 65535)) dportsW (X17 dl dh)) { q with r:={ q.r with sl:=a,sh:=b } })=_
  rw [portsP_iff.mpr ⟨rfl,s1,s2,by omega⟩]
  exact X11r h1 h2 d1 d2
 ·rw [decide_eq_false hc]
  show A14 (optW (decide (dl ≠ 0∨dh ≠ 65535)) dportsW (X17 dl dh)) q=_
  unfold A14
  rw [if_neg (by rw [X94]; split <;> decide),X11r h1 h2 d1 d2]
  simp only [not_or,Decidable.not_not] at hc
  obtain ⟨rfl,rfl⟩:=hc
  obtain ⟨k,dv,ic,vr,en,r,a,b,p,m,n,ho,ad⟩:=q
  obtain ⟨pm,pr,sa,sb,da,db,sl,sh,dl,dh⟩:=r
  simp only at e1 e2
  subst e1 e2
  rfl
theorem X13f {pr:Int} {sl sh dl dh:Nat} (hp:pr=-1∨(0 ≤ pr∧pr ≤ 255)) (s1:sl ≤ sh) (s2:sh ≤ 65535) (h1:dl ≤ dh) (h2:dh ≤ 65535) {q:QN} (ep:q.r.proto=-1) (e1:q.r.sl=0) (e2:q.r.sh=65535) (d1:q.r.dl=0) (d2:q.r.dh=65535):A13 (optW (decide (pr ≠ -1)) protoW (itoa pr) ++ (optW (decide (sl ≠ 0∨sh ≠ 65535)) sportsW (X17 sl sh) ++ optW (decide (dl ≠ 0∨dh ≠ 65535)) dportsW (X17 dl dh))) q=some { q with r:={ q.r with proto:=pr,sl:=sl,sh:=sh,dl:=dl,dh:=dh } }:=by
 by_cases hc:pr ≠ -1
 ·rw [decide_eq_true hc]
  obtain ⟨f1,f2⟩:=hp.resolve_left hc
  obtain ⟨n,rfl⟩:=Int.eq_ofNat_of_zero_le f1
  show A13 (protoW :: itoa ((n:Nat):Int) :: (optW (decide (sl ≠ 0∨sh ≠ 65535)) sportsW (X17 sl sh) ++ optW (decide (dl ≠ 0∨dh ≠ 65535)) dportsW (X17 dl dh))) q=_
  unfold A13
  rw [if_pos (show (protoW :: itoa ((n:Nat):Int) :: (optW (decide (sl ≠ 0∨sh ≠ 65535)) sportsW (X17 sl sh) ++ optW (decide (dl ≠ 0∨dh ≠ 65535)) dportsW (X17 dl dh))).head?=some protoW from rfl)]
  show (match num 255 (itoa ((n:Nat):Int)) with | none=>none | some n=>A14 (optW (decide (sl ≠ 0∨sh ≠ 65535)) sportsW (X17 sl sh) ++ optW (decide (dl ≠ 0∨dh ≠ 65535)) dportsW (X17 dl dh)) { q with r:={ q.r with proto:=(n:Nat) } })=_
  rw [X3d,X5r (by have:((n:Nat):Int) ≤ 255:=f2; omega)]
  exact X10s s1 s2 h1 h2 e1 e2 d1 d2
 ·rw [decide_eq_false hc]
  show A13 (optW (decide (sl ≠ 0∨sh ≠ 65535)) sportsW (X17 sl sh) ++ optW (decide (dl ≠ 0∨dh ≠ 65535)) dportsW (X17 dl dh)) q=_
  unfold A13
  rw [if_neg (by rw [X70,X94]; split <;> (try split) <;> decide),X10s s1 s2 h1 h2 e1 e2 d1 d2]
  simp only [Decidable.not_not] at hc
  subst hc
  obtain ⟨k,dv,ic,vr,en,r,a,b,p,m,n,ho,ad⟩:=q
  obtain ⟨pm,pr,sa,sb,da,db,sl,sh,dl,dh⟩:=r
  simp only at ep
  subst ep
  rfl
theorem Xxa {a:Nat} {b:Int} {x:Str} {rest:List Str} (ha:a < 4294967296) (hb:0 ≤ b∧b ≤ 32) (hm:a % 2 ^ (32 - b.toNat)=0) (hx:rest.head? ≠ some x):prfO x (optW (decide (b ≠ 0)) x (X1o a b) ++ rest)=some (a,b.toNat,rest):=by
 by_cases hc:b ≠ 0
 ·rw [decide_eq_true hc]
  show prfO x (x :: X1o a b :: rest)=_
  unfold prfO
  rw [if_pos (show (x :: X1o a b :: rest).head?=some x from rfl)]
  show (if (X2v (X1o a b)).2.2=0∧(X2v (X1o a b)).2.1 ≠ 0 then some ((X2v (X1o a b)).1,(X2v (X1o a b)).2.1,rest) else none)=_
  rw [Xp8 ha hb hm,if_pos ⟨rfl,by show b.toNat ≠ 0; omega⟩]
 ·rw [decide_eq_false hc]
  show prfO x rest=_
  unfold prfO
  rw [if_neg hx]
  simp only [Decidable.not_not] at hc
  have:=mod0 ha hc hm
  rw [this,hc]
  rfl
theorem X111 {r:Rl} (h:GoodR r) {q:QN} (hq:q.r=rlH):A12 (X20 r) q=some { q with r:=r }:=by
 obtain ⟨pm,pr,sa,sb,da,db,sl,sh,dl,dh⟩:=r
 have hpm:pm=true:=h.permit
 subst hpm
 unfold X20
 simp only [List.append_assoc]
 have c1:cF ⟨true,pr,sa,sb,da,db,sl,sh,dl,dh⟩=decide (sb ≠ 0):=rfl
 have c2:cT ⟨true,pr,sa,sb,da,db,sl,sh,dl,dh⟩=decide (db ≠ 0):=rfl
 have c3:cP ⟨true,pr,sa,sb,da,db,sl,sh,dl,dh⟩=decide (pr ≠ -1):=rfl
 have c4:cS ⟨true,pr,sa,sb,da,db,sl,sh,dl,dh⟩=decide (sl ≠ 0∨sh ≠ 65535):=rfl
 have c5:cD ⟨true,pr,sa,sb,da,db,sl,sh,dl,dh⟩=decide (dl ≠ 0∨dh ≠ 65535):=rfl
 rw [c1,c2,c3,c4,c5]
 unfold A12
 rw [Xxa h.sa h.sb h.sm (by rw [X70,X70,X70,X94]; split <;> (try split) <;> (try split) <;> (try split) <;> decide)]
 simp only
 rw [Xxa h.da h.db h.dm (by rw [X70,X70,X94]; split <;> (try split) <;> (try split) <;> decide)]
 simp only
 rw [X13f h.proto h.s1 h.s2 h.d1 h.d2 (by show q.r.proto=-1; rw [hq]; rfl) (by show q.r.sl=0; rw [hq]; rfl) (by show q.r.sh=65535; rw [hq]; rfl) (by show q.r.dl=0; rw [hq]; rfl) (by show q.r.dh=65535; rw [hq]; rfl)]
 have n1:((sb.toNat:Nat):Int)=sb:=Int.toNat_of_nonneg h.sb.1
 have n2:((db.toNat:Nat):Int)=db:=Int.toNat_of_nonneg h.db.1
 simp only [n1,n2,hq]
 rfl
theorem Xsl {q:QN} (h:GoodQ q):askW (X1s q)=some q:=by
 cases h with
 | way k dev ifc en r hk hd hi e1 e7 hr =>
  have hk1:k ≤ 2:=by omega
  have hw:X1s { q0 with kind:=k,dev:=dev,ifc:=ifc,en:=en,r:=r }=X1h k :: dev :: ifc :: endW en :: X20 r:=by unfold X1s; rw [if_pos hk1]; rfl
  rw [hw]
  show askK (posG 0 kindsL (X1h k)) (dev :: ifc :: endW en :: X20 r)=_
  rw [(kpos (show 1 ≤ k by omega) (by omega)).1]
  unfold askK
  rw [if_neg (by omega),if_pos (by omega)]
  unfold A10
  rw [if_pos (show X1b ((dev :: ifc :: endW en :: X20 r).headD [])=true∧X1b ((dev :: ifc :: endW en :: X20 r).tail.headD [])=true from ⟨hd,hi⟩)]
  unfold A11
  rw [if_pos (show k < 3 by omega)]
  have hp:posG 0 endsL ((dev :: ifc :: endW en :: X20 r).tail.tail.headD [])=en:=(epos e1 e7).1
  rw [hp,if_neg (by omega)]
  exact X111 hr rfl
 | loop dev ifc r hd hi hr =>
  have hw:X1s { q0 with kind:=3,dev:=dev,ifc:=ifc,r:=r }=X1h 3 :: dev :: ifc :: X20 r:=rfl
  rw [hw]
  show askK (posG 0 kindsL (X1h 3)) (dev :: ifc :: X20 r)=_
  rw [(kpos (show 1 ≤ 3 by omega) (by omega)).1]
  show A10 (dev :: ifc :: X20 r) { q0 with kind:=3 }=_
  unfold A10
  rw [if_pos (show X1b ((dev :: ifc :: X20 r).headD [])=true∧X1b ((dev :: ifc :: X20 r).tail.headD [])=true from ⟨hd,hi⟩)]
  unfold A11
  rw [if_neg (show ¬ 3 < 3 by omega)]
  exact X111 hr rfl
 | trace dev ifc hops a b p m n hd hi hh hb =>
  have hw:X1s { q0 with kind:=4,dev:=dev,ifc:=ifc,hops:=(hops:Nat),a:=a,b:=b,p:=p,m:=m,n:=n }=[X1h 4,dev,ifc,itoa (hops:Nat),endT a m,endT b n,decDigits p]:=rfl
  rw [hw]
  show askK (posG 0 kindsL (X1h 4)) [dev,ifc,itoa (hops:Nat),endT a m,endT b n,decDigits p]=_
  rw [(kpos (show 1 ≤ 4 by omega) (by omega)).1]
  show A16 [dev,ifc,itoa (hops:Nat),endT a m,endT b n,decDigits p] { q0 with kind:=4 }=_
  unfold A16
  rw [if_pos (show X1b ([dev,ifc,itoa (hops:Nat),endT a m,endT b n,decDigits p].headD [])=true∧X1b ([dev,ifc,itoa (hops:Nat),endT a m,endT b n,decDigits p].tail.headD [])=true from ⟨hd,hi⟩)]
  have c1:num 255 ([dev,ifc,itoa (hops:Nat),endT a m,endT b n,decDigits p].tail.tail.headD [])=some hops:=by
   show num 255 (itoa (hops:Nat))=_
   rw [X3d]; exact X5r hh
  have c2:prH (Xz [32] [dev,ifc,itoa (hops:Nat),endT a m,endT b n,decDigits p].tail.tail.tail)=some (a,m,b,n,p):=by
   refine prH_iff.mpr ⟨?_,hb⟩
   rw [Xgw]
   simp [Xz,List.intercalate,List.intersperse]
  rw [c1,c2]
  rfl
 | table k dev hk hd =>
  have hw:X1s { q0 with kind:=k,dev:=dev }=[X1h k,dev]:=by
   unfold X1s
   rw [if_neg (show ¬ k ≤ 2 by omega),if_neg (show ¬ k=3 by omega),if_neg (show ¬ k=4 by omega),if_pos (show k ≤ 6 by omega)]
   rfl
  rw [hw]
  show askK (posG 0 kindsL (X1h k)) [dev]=_
  rw [(kpos (show 1 ≤ k by omega) (by omega)).1]
  unfold askK
  rw [if_neg (by omega),if_neg (by omega),if_neg (by omega),if_pos (by omega)]
  unfold A17
  rw [if_pos (show X1b ([dev].headD [])=true from hd)]
  rfl
 | tableV k dev vrf hk hd hv =>
  have hne:=Xhg hv
  have hw:X1s { q0 with kind:=k,dev:=dev,vrf:=vrf }=[X1h k,dev,vrfW,vrf]:=by
   unfold X1s
   rw [if_neg (show ¬ k ≤ 2 by omega),if_neg (show ¬ k=3 by omega),if_neg (show ¬ k=4 by omega),if_pos (show k ≤ 6 by omega),if_pos hne]
  rw [hw]
  show askK (posG 0 kindsL (X1h k)) [dev,vrfW,vrf]=_
  rw [(kpos (show 1 ≤ k by omega) (by omega)).1]
  unfold askK
  rw [if_neg (by omega),if_neg (by omega),if_neg (by omega),if_pos (by omega)]
  unfold A17
  rw [if_pos (show X1b ([dev,vrfW,vrf].headD [])=true from hd),if_pos (show [dev,vrfW,vrf].tail.head?=some vrfW from rfl),if_pos (show X1b ([dev,vrfW,vrf].tail.tail.headD [])=true from hv)]
  rfl
 | owner ad ha =>
  have hw:X1s { q0 with kind:=7,ad:=ad }=[X1h 7,X1z ad]:=rfl
  rw [hw]
  show askK (posG 0 kindsL (X1h 7)) [X1z ad]=_
  rw [(kpos (show 1 ≤ 7 by omega) (by omega)).1]
  show A17o [X1z ad] { q0 with kind:=7 }=_
  unfold A17o
  rw [show X5z ([X1z ad].headD [])=some ad from addrP_iff.mpr ⟨rfl,ha⟩]
  rfl
theorem ask_iff {s:Str} {q:QN}:askW (split 32 s)=some q ↔ GoodQ q∧s=writeT q:=by
 constructor
 ·intro h
  obtain ⟨e1,e2,e3⟩:=split_eq_iff.mp (rfl:split 32 s=split 32 s)
  obtain ⟨h1,h2⟩:=Xvs e3 h
  refine ⟨h1,?_⟩
  have h4:=(split_eq_iff.mp (X6o h1)).2.1
  rw [e2,h2,← h4]
 ·rintro ⟨h,rfl⟩
  rw [X6o h]
  exact Xsl h
end Go.Ab
