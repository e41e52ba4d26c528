/-
  What the functions of the program answer, at every text and every question. No conditions.
-/
import Derived.Test.YteognfejlpbmoaaGreatDoorA2
set_option linter.unusedSimpArgs false
set_option linter.unusedVariables false
set_option maxRecDepth 100000
noncomputable section
namespace Go.Ab.Sh
open Go Go.Ab Go.Lib
variable {B a act b cap1 f g i k n r' δ':Nat} {K:Key} {L:Lc} {S:PSt} {dc pm:Bool} {e:Int} {l:List Cl} {m' m1:Mem} {name rest w:Str} {vals:List Nat} {ws:List Str} {y:Option Rs} {φ1:Phi}
variable {c:Cx} {m0 m:Mem} {φ0 φ:Phi} {s0 s s':PSt} {cap δ:Nat} {ts:List Tmp} {x:Option Rs} {Q:Value->Nat->Phi->PSt->Prop} {v:Value} {cu:Cu}
theorem Xhp (d:Nat) {K:Key} (hr:kt K=some 13) (h0:K ≠ [0]) (φ0':Phi) (kw:Str) (b cap0 δ:Nat):∀ (f F:Nat) (s1:PSt) (cap1:Nat) (φ1:Phi) (m:Mem) (l:List Cl),c.ws.length - s1.cu.pl < f->c.ws.length - s1.cu.pl + 1 < F->cap1 + (c.ws.length - s1.cu.pl) + 1 <= cap0 + δ->cap0 + δ <= 8589934592->φ1 K=φ0' K ->
  s1.X K=some (.c l)->b * 15 + 15 <= l.length->W c m0 φ0 s0 cap1 m φ1 s1 ts ->
  Res c m0 φ0 s0 (Q4l (d6 d) F (.bool true) (pt (φ0' K).b (b * 15) (φ0' K).ver) (pt c.C 0 0) (sv kw) m) (Q_p cap0 δ (sv kw) (X28 c K (b * 15 + 12) f s1))
 | f + 1,F + 1,s1,cap1,φ1,m,l,h1,h2,h3,h4,hφ,hl,hll,k=>by
  have hf:fdAt 13 (b * 15 + 12)=some (.l 11):=by rw [fd_row (r:=13) (sz:=15) rfl b 12 (by omega)]; rfl
  obtain ⟨-,-,ld,-,-⟩:=k.ps.list hl hr (o:=b * 15 + 12) (by omega) hf;rw [hφ] at ld;unfold Q4l;delta L F C qj Q qi P qr Z qp A;rw [X7];simp only [Xh,X9,X3,ld];refine k.cl (X18 k.ps 1 4294967295 4294967295 rfl (by omega) d) fun m1 k1=>?_;have hl1:(s1.at (Xb c s1.cu 1 4294967295).2).X K=some (.c l):=hl;obtain ⟨-,-,ld1,-,-⟩:=k1.ps.list hl1 hr (o:=b * 15 + 12) (by omega) hf;rw [hφ] at ld1;have ld1:X8 false 1 (pt (φ0' K).b (b * 15 + 12) (φ0' K).ver) m1=some (slV (φ1 ((b * 15 + 12) :: K)) (nOf s1.X K (b * 15 + 12)) (rowL 11)):=ld1;simp only [ld1,X5e,Bool.and_true,Xr,Xat c _ 1 4294967295 (by omega),X4];refine k1.bsl (cs:=[.int .u32 (Xb c s1.cu 1 4294967295).1]) rfl (by decide) fun b2 m2 k2=>?_;have k2:W c m0 φ0 s0 cap1 m2 φ1 (s1.at (Xb c s1.cu 1 4294967295).2) ((b2,0,[Cl.v (.int .u32 (Xb c s1.cu 1 4294967295).1)].map Cl.raw) :: ts):=k2;rw [<- hφ];refine k2.apk (by omega) hl1 hr (by omega) hf (sz:=1) rfl rfl rfl (X2t (And.intro (ok_i _ _) trivial)) (by decide) fun cap2 m3 φ2 hc2 hφ2 k3=>?_;have hK2:φ2 K=φ0' K:=by simp_all
  have hm:TA (d + 6) Q1k [pt c.C 0 0] m3=some (.bool (X27 c (Xb c s1.cu 1 4294967295).2),m3):=c_more k3.ps (d + 5);simp only [hm,X4];have hsp:X28 c K (b * 15 + 12) (f + 1) s1=if X27 c (Xb c s1.cu 1 4294967295).2=true then X28 c K (b * 15 + 12) f ((s1.at (Xb c s1.cu 1 4294967295).2).app K (b * 15 + 12) [.v (.int .u32 (Xb c s1.cu 1 4294967295).1)]) else (s1.at (Xb c s1.cu 1 4294967295).2).app K (b * 15 + 12) [.v (.int .u32 (Xb c s1.cu 1 4294967295).1)]:=rfl;rw [hsp];cases hmo:X27 c (Xb c s1.cu 1 4294967295).2 with
  | true =>
   obtain ⟨g1,g2⟩:=Xrt hmo;have g3:s1.cu.pl < c.ws.length:=X93 g1;rw [if_pos rfl,hφ];obtain ⟨q1,-⟩:=k1.ps.list hl1 hr (o:=b * 15 + 12) (by omega) hf;have hl2:((s1.at (Xb c s1.cu 1 4294967295).2).app K (b * 15 + 12) [.v (.int .u32 (Xb c s1.cu 1 4294967295).1)]).X K=some (.c (l.set (b * 15 + 12) (.s (nOf s1.X K (b * 15 + 12) + 1) 1))):=by
    show apF s1.X K (b * 15 + 12) _ K=_;rw [Xbf hl q1 _ rfl,NX.set_eq];rfl
   have g4:((s1.at (Xb c s1.cu 1 4294967295).2).app K (b * 15 + 12) [.v (.int .u32 (Xb c s1.cu 1 4294967295).1)]).cu.pl=s1.cu.pl + 1:=g2;generalize (s1.at (Xb c s1.cu 1 4294967295).2).app K (b * 15 + 12) [Cl.v (.int .u32 (Xb c s1.cu 1 4294967295).1)]=s2 at hl2 g4 k3 ⊢;exact Xhp d hr h0 φ0' kw b cap0 δ f F _ cap2 φ2 m3 _ (by omega) (by omega) (by omega) h4 hK2 hl2 (by grind) k3
  | false =>
   rw [if_neg (by decide)];obtain ⟨F,rfl⟩:∃ j,F=j + 1:=⟨F - 1,by omega⟩
   unfold Q4l;delta L F C qj Q qi P qr Z qp A;rw [X6];delta Qv K;exact k3.ret ⟨rfl,by omega,rfl⟩
theorem Xz1 (h:PS c cap m φ s) (hc:cap + c.ws.length + 1 <= 8589934592) (hK:s.X K=some (.c l)) (hr:kt K=some 13) (h0:K ≠ [0]) (hll:b * 15 + 15 <= l.length) (d:Nat) :
  PaD c cap (c.ws.length + 1) m φ s (TA (d + 7) Qc8 [pt c.P 0 0,pt c.C 0 0,pt (φ K).b (b * 15) (φ K).ver] m) (sv (setC c s K (b * 15)).1) (setC c s K (b * 15)).2:=by
 refine h.pad (X95 _ _ _ _ _) fun m0 k=>?_;delta Q72 Qff C;refine k.cl (X2x k.ps (d + 4)) fun m1 k1=>?_;delta Qfg Qfh B qd E;unfold setC;dsimp only;generalize (Xf c s.cu).1=w;have hK1:(s.at (Xf c s.cu).2).X K=some (.c l):=hK;generalize s.at (Xf c s.cu).2=s1 at k1 hK1 ⊢;have num:∀ (o:Nat) (hi:Nat),hi < 1000000000000->o < 15->(rowT 13)[o]?=some (.i .i64)->Res c m0 φ s (bp (TA (d + 6) Q2 [pt c.C 0 0,.int .i64 0,.int .i64 (hi:Int)] m1) fun x0 m =>
   bp (unt (Xd 1 (pt (φ K).b (b * 15 + o) (φ K).ver) x0 m)) fun _ m=>Qv (d6 d) (sv w) m) (Q_p cap (c.ws.length + 1) (sv w) ((s1.at (Xb c s1.cu 0 hi).2).sto K (b * 15 + o) [.int .i64 (Xb c s1.cu 0 hi).1])):=fun o hi hh ho hf=>by
  refine k1.cl (X18 k1.ps 0 hi hi rfl hh d) fun m2 k2=>?_;refine k2.st1 hK1 hr (by omega) rfl rfl h0 (by rw [fd_row (r:=13) (sz:=15) rfl b o ho,hf]; exact ok_i _ _) fun m3 l3 _ _ k3=>?_;delta Qv K;exact k3.retp (Nat.le_add_right _ _)
 try simp only [X1c,Qw,X3]
 delta Qfi C Q B Z A qd E;refine Xk (fun hb=>?_) (fun hb=>?_)
 ·rw [if_pos (of_decide_eq_true hb)]
  try simp only [Xh,X9,X3]
  exact num 7 16777216 (by omega) (by omega) rfl
 rw [if_neg (of_decide_eq_false hb)]
 try simp only [X1c,Qw,X3]
 delta Qfj C Q B Z A qd E;refine Xk (fun hb=>?_) (fun hb=>?_)
 ·rw [if_pos (of_decide_eq_true hb)]
  try simp only [Xh,X9,X3]
  exact num 8 16777216 (by omega) (by omega) rfl
 rw [if_neg (of_decide_eq_false hb)]
 try simp only [X1c,Qw,X3]
 delta Qfk C Q B Z A qd E;refine Xk (fun hb=>?_) (fun hb=>?_)
 ·rw [if_pos (of_decide_eq_true hb)]
  try simp only [Xh,X9,X3]
  exact num 9 16777216 (by omega) (by omega) rfl
 rw [if_neg (of_decide_eq_false hb)]
 try simp only [X1c,Qw,X3]
 delta Qfl C Q B Z qd E;refine Xk (fun hb=>?_) (fun hb=>?_)
 ·rw [if_pos (of_decide_eq_true hb)];refine k1.cl (X5n k1.ps [97,100,100] (d + 4)) fun m2 k2=>?_
  try simp only [Xh,X9,X3]
  refine k2.st1 hK1 hr (by omega) rfl rfl h0 (by rw [fd_row (r:=13) (sz:=15) rfl b 11 (by omega)]; exact ok_b _) fun m3 l3 hl3 hn3 k3=>?_;obtain ⟨L,m4,e4,k4,hLr⟩:=Xl5 k3.ps (d + 2);have e4:TA (d + 6) Q3i [pt c.C 0 0] m3=some (slV L (X1y c (c.ws.length + 1) (isC c s1.cu [97,100,100]).2).1.length 1,m4):=e4;rw [e4,X4];have k4:=k3.join k4;have hlen:=Xao c (c.ws.length + 1) (isC c s1.cu [97,100,100]).2;refine W.ads (ts:=[]) k4 hLr (by rw [List.length_map]; rfl) (Xdj _ _ _) (fun v hv=>by
   grind) (k:=K) hl3 hr h0 (o:=b * 15 + 10) (by omega) (by rw [fd_row (r:=13) (sz:=15) rfl b 10 (by omega)]; rfl) fun m5 φ1 _ k5=>?_
  delta Qv K;refine k5.ret ⟨rfl,?_,rfl⟩;have hlen:(X1y c (c.ws.length + 1) (isC c s1.cu [97,100,100]).2).1.length <= c.ws.length + 1:=hlen;show max cap (X1y c (c.ws.length + 1) (isC c s1.cu [97,100,100]).2).1.length <= _;omega
 rw [if_neg (of_decide_eq_false hb)]
 try simp only [X1c,Qw,X3]
 delta Qfm C Q D Z A qd qf E;refine Xk (fun hb=>?_) (fun hb=>?_)
 ·rw [if_pos (of_decide_eq_true hb)];unfold Qfn;have hle:=h.wl.len;exact Xhp d hr h0 φ w b cap (c.ws.length + 1) (c.ws.length + 1) 18446744073709551616 s1 cap φ m1 l (by omega) (by omega) (by omega) (by omega) rfl hK1 hll k1
 rw [if_neg (of_decide_eq_false hb)]
 try simp only [X1c,Qw,X3]
 refine Xk (fun hb=>?_) (fun hb=>?_)
 ·rw [if_pos (of_decide_eq_true hb)];refine k1.cl (Xtx k1.ps d) fun m2 k2=>?_
  try simp only [Xh,X9,X3]
  refine k2.st1 hK1 hr (by omega) rfl rfl h0 (by rw [fd_row (r:=13) (sz:=15) rfl b 13 (by omega)]; exact ok_i _ _) fun m3 l3 _ _ k3=>?_;delta Qv K;exact k3.retp (Nat.le_add_right _ _)
 ·rw [if_neg (of_decide_eq_false hb)];refine k1.cl (X3t k1.ps 130 (by decide) (d + 4)) fun m2 k2=>?_;delta Qv K;exact k2.retp (Nat.le_add_right _ _)
theorem W.inp1 (h:W c m0 φ s cap1 m φ1 s' ts) (hc:cap1 <= cap + δ) (hw:w.length <= 65536) (d:Nat) (hS:Xz s' [w]=S) :
  Res c m0 φ s (bp (X5 Q4 [.string ⟨#[]⟩] 1 1 [(0,sv w)] m) fun y m=>bp (TA (d + 2) Q7 [pt c.P 0 0,y] m) fun _ m=>some (.tuple ⟨[]⟩,m)) (Q_p cap δ (.tuple ⟨[]⟩) S):=by
 subst hS;refine h.bsl (cs:=[w].map sv) rfl (by decide) fun b m1 k1=>?_;refine k1.cs (X5d k1.ps (ws:=[w]) (k1.slx (List.mem_cons_self ..)) (by simp) (by simp) (by grind) d) fun m2 k2=>?_;exact k2.retp hc
theorem W.inp2 (h:W c m0 φ s cap1 m φ1 s' ts) (hc:cap1 <= cap + δ) {w1 w2:Str} (hw1:w1.length <= 65536) (hw2:w2.length <= 65536) (d:Nat) (hS:Xz s' [w1,w2]=S) :
  Res c m0 φ s (bp (X5 Q4 [.string ⟨#[]⟩] 1 2 [(0,sv w1),(1,sv w2)] m) fun y m=>bp (TA (d + 2) Q7 [pt c.P 0 0,y] m) fun _ m=>some (.tuple ⟨[]⟩,m)) (Q_p cap δ (.tuple ⟨[]⟩) S):=by
 subst hS;refine h.bsl (cs:=[w1,w2].map sv) rfl (by decide) fun b m1 k1=>?_;refine k1.cs (X5d k1.ps (ws:=[w1,w2]) (k1.slx (List.mem_cons_self ..)) (by simp) (by simp) (by grind) d) fun m2 k2=>?_;exact k2.retp hc
theorem kt9:kt [9,0]=some 12:=rfl
structure Xx4 (X:NX):Prop where
 pos:0 <= iOf X [0] 17
 lt:(iOf X [0] 17).toNat < nOf X [0] 9
 cl:0 < nOf X [9,0] ((iOf X [0] 17).toNat * 3 + 1)
theorem Xtm (h:PS c cap m φ s) (hp:0 <= iOf s.X [0] 17):X8 false 1 (pt c.P 17 0) m=some (I ((iOf s.X [0] 17).toNat:Nat)):=by
 obtain ⟨l,hk,hl18,ld⟩:=h.root;obtain ⟨d,q1,q2⟩:=h.wt.get hk (r:=0) rfl (o:=17) (by omega);have q2:okc (some (.i .i64)) d:=q2;cases d with
 | s n sz=>exact False.elim q2
 | v y =>
  obtain ⟨z,rfl⟩:=q2;have e:iOf s.X [0] 17=z:=by simp [iOf,vOf,X6i,hk,q1]
  rw [ld 17 _ (.inr (by omega)) q1,e];rw [e] at hp;rw [Int.toNat_of_nonneg hp]
theorem Xz3 (h:PS c cap m φ s) (hc:cap + c.ws.length + 1 <= 8589934592) (ha:Xx4 s.X) (d:Nat):PaD c cap (c.ws.length + 1) m φ s (TA (d + 9) Q6i [pt c.P 0 0,pt c.C 0 0] m) (.tuple ⟨[]⟩) (askC c s):=by
 refine h.pad (X9d _ _ _ _) fun m0 k=>?_;obtain ⟨hpos,hlt,hcl⟩:=ha;have lp:=Xtm k.ps hpos;unfold askC askK askB;generalize (iOf s.X [0] 17).toNat=p at hlt hcl lp ⊢;obtain ⟨⟨lr,hr0,hr18⟩,q2,q3,_,q5⟩:=k.ps.dev (f:=9) (r':=12) (sz:=3) rfl (by omega) rfl;obtain ⟨l9,a1,a2,a3⟩:=q5 (by omega);have hend:=row_end (sz:=3) hlt;have hf:fdAt 12 (p * 3 + 1)=some (.l 13):=by rw [fd_row (r:=12) (sz:=3) rfl p 1 (by omega)]; rfl
 obtain ⟨l,hl,_,hll,ld,sb,ix⟩:=k.ps.lrow (by omega) a1 kt9 (o:=p * 3 + 1) (by omega) hf (sz:=15) rfl hcl;have hr:=X2d kt9 hf;have ixp:Xa 3 (slV (φ [9,0]) (nOf s.X [0] 9) 3) (I p)=some (pt (φ [9,0]).b (p * 3) (φ [9,0]).ver):=X3e _ a3 _ 3 p .i64 hlt;have h0:(p * 3 + 1) :: [9,0] ≠ [0]:=fun e=>by grind
 delta Q6r H qr qa Y;simp only [Xh,X9,X3,Nat.zero_add,q3,lp,ixp,ld];delta Qf5 B N Y A;simp only [X2y,X3,sb,ix];delta Qf4 C;have hw:=X2w k.ps;refine k.cl (X2x k.ps (d + 6)) fun m1 k1=>?_;delta Qf3 Qf2 B qd E
 try dsimp only
 generalize nOf s.X [9,0] (p * 3 + 1) - 1=b at hll ⊢;generalize (Xf c s.cu).1=w at hw ⊢;have hl1:(s.at (Xf c s.cu).2).X [p * 3 + 1,9,0]=some (.c l):=hl;generalize s.at (Xf c s.cu).2=s1 at k1 hl1 ⊢
 try simp only [X1c,Qw,X3]
 delta Qf1 F C Q D qa B Z X qw qt A qd E qo;refine Xk (fun hb=>?_) (fun hb=>?_)
 ·rw [if_pos (of_decide_eq_true hb)];have hq:=X2w k1.ps;refine k1.cl (X2x k1.ps (d + 6)) fun m2 k2=>?_;delta Qf0 C D Z A qd E;generalize (Xf c s1.cu).1=q at hq ⊢;have hl2:(s1.at (Xf c s1.cu).2).X [p * 3 + 1,9,0]=some (.c l):=hl1;generalize s1.at (Xf c s1.cu).2=s2 at k2 hl2 ⊢
  try simp only [X1c,Qw,X3]
  have hnm:=X3i k2.ps;have nam:∀ o,o < 15->(rowT 13)[o]?=some .s->Res c m0 φ s (bp (TA (d + 8) Qd [pt c.C 0 0] m2) fun x3 m =>
    bp (unt (Xd 1 (pt (φ [p * 3 + 1,9,0]).b (b * 15 + o) (φ [p * 3 + 1,9,0]).ver) x3 m)) fun _ m=>Q1a (dd d) (pt c.P 0 0) (sv w) (sv q) m) (Q_p cap (c.ws.length + 1) (.tuple ⟨[]⟩) (Xz ((s2.at (X17 c s2.cu).2).sto [p * 3 + 1,9,0] (b * 15 + o) [sv (X17 c s2.cu).1]) [w,q])):=fun o ho hf'=>by
   refine k2.cl (X38 k2.ps (d + 3)) fun m3 k3=>?_;refine k3.st1 hl2 hr (by omega) rfl rfl h0 (by rw [fd_row (r:=13) (sz:=15) rfl b o ho,hf']; exact ok_s (Nat.le_trans hnm (by decide))) fun m4 l4 _ _ k4=>?_;delta Q1a F qt qo;exact k4.inp2 (Nat.le_add_right _ _) hw hq (d + 6) rfl
  have num:∀ (o:Nat) (lo:Int) (hi:Nat),hi < 1000000000000->o < 15->(rowT 13)[o]?=some (.i .i64)->Res c m0 φ s (bp (TA (d + 8) Q2 [pt c.C 0 0,.int .i64 lo,.int .i64 (hi:Int)] m2) fun x3 m =>
    bp (unt (Xd 1 (pt (φ [p * 3 + 1,9,0]).b (b * 15 + o) (φ [p * 3 + 1,9,0]).ver) x3 m)) fun _ m=>Q1a (dd d) (pt c.P 0 0) (sv w) (sv q) m) (Q_p cap (c.ws.length + 1) (.tuple ⟨[]⟩) (Xz ((s2.at (Xb c s2.cu lo hi).2).sto [p * 3 + 1,9,0] (b * 15 + o) [.int .i64 (Xb c s2.cu lo hi).1]) [w,q])):=fun o lo hi hh ho hf'=>by
   refine k2.cl (X18 k2.ps lo hi hi rfl hh (d + 2)) fun m3 k3=>?_;refine k3.st1 hl2 hr (by omega) rfl rfl h0 (by rw [fd_row (r:=13) (sz:=15) rfl b o ho,hf']; exact ok_i _ _) fun m4 l4 _ _ k4=>?_;delta Q1a F qt qo;exact k4.inp2 (Nat.le_add_right _ _) hw hq (d + 6) rfl
  refine Xk (fun hb=>?_) (fun hb=>?_)
  ·rw [if_pos (of_decide_eq_true hb)]
   try simp only [Xh,X9,X3]
   exact nam 2 (by omega) rfl
  rw [if_neg (of_decide_eq_false hb)];refine Xk (fun hb=>?_) (fun hb=>?_)
  ·rw [if_pos (of_decide_eq_true hb)]
   try simp only [Xh,X9,X3]
   exact nam 3 (by omega) rfl
  rw [if_neg (of_decide_eq_false hb)];refine Xk (fun hb=>?_) (fun hb=>?_)
  ·rw [if_pos (of_decide_eq_true hb)]
   try simp only [Xh,X9,X3]
   exact num 4 0 16777216 (by omega) (by omega) rfl
  rw [if_neg (of_decide_eq_false hb)];refine Xk (fun hb=>?_) (fun hb=>?_)
  ·rw [if_pos (of_decide_eq_true hb)]
   try simp only [Xh,X9,X3]
   exact num 5 0 16777216 (by omega) (by omega) rfl
  rw [if_neg (of_decide_eq_false hb)];refine Xk (fun hb=>?_) (fun hb=>?_)
  ·rw [if_pos (of_decide_eq_true hb)]
   try simp only [Xh,X9,X3]
   exact num 6 1 4294967295 (by omega) (by omega) rfl
  ·rw [if_neg (of_decide_eq_false hb)];refine k2.cl (X3t k2.ps 130 (by decide) (d + 6)) fun m3 k3=>?_;delta Q1a F qt qo;exact k3.inp2 (Nat.le_add_right _ _) hw hq (d + 6) rfl
 rw [if_neg (of_decide_eq_false hb)]
 try simp only [X1c,Qw,X3]
 refine Xk (fun hb=>?_) (fun hb=>?_)
 ·rw [if_pos (of_decide_eq_true hb)];have hkl:(setC c s1 [p * 3 + 1,9,0] (b * 15)).1.length <= 65536:=X2w k1.ps;refine k1.pd (Xz1 k1.ps hc hl1 hr h0 hll (d + 1)) fun cap1 m2 φ1 hc1 k2=>?_;exact k2.inp2 hc1 hw hkl (d + 6) rfl
 rw [if_neg (of_decide_eq_false hb)]
 try simp only [X1c,Qw,X3]
 refine Xk (fun hb=>?_) (fun hb=>?_)
 ·rw [if_pos (of_decide_eq_true hb)];obtain ⟨dv,q1,q2'⟩:=k1.ps.wt.get hl1 hr (o:=b * 15 + 0) (by omega);rw [fd_row (r:=13) (sz:=15) rfl b 0 (by omega)] at q2';have q2':okc (some (.i .i64)) dv:=q2';cases dv with
  | s n sz=>exact False.elim q2'
  | v y =>
   obtain ⟨z,rfl⟩:=q2';have ez:iOf s1.X [p * 3 + 1,9,0] (b * 15)=z:=by simp_all [iOf,vOf,X6i,hl1,Nat.add_zero,q1]
   have ldz:X8 false 1 (pt (φ [p * 3 + 1,9,0]).b (b * 15 + 0) (φ [p * 3 + 1,9,0]).ver) m1=some (.int .i64 z):=k1.ps.ldv (fun e=>by grind) hl1 (fun e=>absurd e h0) q1;simp only [Xh,X9,X3,ldz,Q35];rw [ez];refine k1.cl (X18 k1.ps (IntKind.i64.wrap (z + 1)) 65535 65535 rfl (by omega) (d + 2)) fun m2 k2=>?_;refine k2.st1 hl1 hr (by omega) rfl rfl h0 (by rw [fd_row (r:=13) (sz:=15) rfl b 14 (by omega)]; exact ok_i _ _) fun m3 l3 _ _ k3=>?_;exact k3.inp1 (Nat.le_add_right _ _) hw (d + 6) rfl
 ·rw [if_neg (of_decide_eq_false hb)];exact (k1.badr 130 (by decide) (d + 6) rfl).pd
variable {c:Cx} {m0 m:Mem} {φ0 φ:Phi} {s0 s s':PSt} {cap δ:Nat} {ts:List Tmp} {x:Option Rs} {Q:Value->Nat->Phi->PSt->Prop} {v:Value} {cu:Cu}
abbrev d7 (d:Nat):Gt:=⟨TA (d + 7),18446744073709551616⟩
abbrev clsR (seq:Int) (act:Nat):List Cl:=[.v (.int .i64 seq),.v (.int .u8 (act:Int)),.v (sv []),.v (sv []),.v (.int .i64 (-1)),.v (.int .i64 (-1)),.v (.int .i64 (-1)),.v (.int .i64 (-1)),.v (.int .i64 (-1)),.v (.int .i64 (-1)),.s 0 1,.v (.bool false),.s 0 1,.v (u32 0),.v (.int .i64 0)]
abbrev rmW:Str:=[114,111,117,116,101,45,109,97,112]
theorem Xcn (h:W c m0 φ0 s0 cap m φ s ts) {sz:Nat} (hf:fdAt 0 f=some (.l r')) (h18:f < 18) (hs:rowL r'=sz) (hK:K ≠ [0]) (hg:∀ a,toX c s a ≠ none->a ≠ K->m1.get (φ a).b=m.get (φ a).b) :
  X8 false 1 (pt c.P f 0) m1=some (slV (φ [f,0]) (nOf s.X [0] f) sz):=by
 obtain ⟨⟨l,hl,_⟩,_,q3,_⟩:=h.ps.dev hf h18 hs;have hx:toX c s [0] ≠ none:=by rw [X7g hl]; simp
 have e:=hg [0] hx (Ne.symm hK);rw [h.ps.pP] at e;rw [Xsa e];exact q3
set_option maxHeartbeats 1000000 in
theorem cl_3 {bn q:Nat} (h:W c m0 φ s cap1 m φ1 s' ((bn,0,[sv name]) :: ts)) (hc1:cap1 <= cap + 1) (hcb:cap + 2 <= 8589934592) (hi:i < nOf s'.X [0] 9) (hq:q <= 65535) (hnl:name.length <= 65536) (d:Nat) :
  Res c m0 φ s (Q55 (d7 d) (pt c.P 0 0) (I i) (pt c.P 0 0) (.int .i64 (q:Int)) (.int .u8 (act:Int)) (pt bn 0 0) m) (Q_p cap 2 (.tuple ⟨[]⟩) (X8z ((s'.sto [0] 17 [I i]).app [9,0] (i * 3 + 1) (clsR q act)) bAsk [rmW,name,X24 q])):=by
 delta Q55 L F C qj H qi P qr qa B Z Y qy qp qk A E qo
 try simp only [Xh,X9,X3,Nat.zero_add]
 refine h.str1 (o:=17) (x:=I i) rfl rfl (by omega) (.inr (by omega)) (by show okc (fdAt 0 17) _; exact ok_i _ _) fun m1 k1=>?_;obtain ⟨lr,hr0,hr18⟩:=h.ps.wt.root;have hX9:(s'.sto [0] 17 [I i]).X [9,0]=s'.X [9,0]:=by
  show stF s'.X [0] 17 [I i] [9,0]=_;rw [X1b hr0,NX.set_ne _ _ (by decide)]
 have hN:nOf (s'.sto [0] 17 [I i]).X [0] 9=nOf s'.X [0] 9:=Xp0 h.ps.wt hr0 (r:=0) rfl (by simp; omega) (fun j y hy=>by
  match j,hy with
  | 0,hy=>cases hy; exact ok_i _ _) [0] 9
 have hi:i < nOf (s'.sto [0] 17 [I i]).X [0] 9:=by omega
 generalize hS:s'.sto [0] 17 [I i]=S at k1 hi ⊢;obtain ⟨_,q2,q3,_,q5⟩:=k1.ps.dev (f:=9) (r':=12) (sz:=3) rfl (by omega) rfl;obtain ⟨l9,a1,a2,a3⟩:=q5 (by omega);have hend:=row_end (sz:=3) hi;have hf:fdAt 12 (i * 3 + 1)=some (.l 13):=by rw [fd_row (r:=12) (sz:=3) rfl i 1 (by omega)]; rfl
 obtain ⟨_,_,ldm,_,_⟩:=k1.ps.list a1 kt9 (o:=i * 3 + 1) (by omega) hf;have ldm:X8 false 1 (pt (φ1 [9,0]).b (i * 3 + 1) (φ1 [9,0]).ver) m1=some (slV (φ1 ((i * 3 + 1) :: [9,0])) (nOf S.X [9,0] (i * 3 + 1)) 15):=ldm;have ixp:Xa 3 (slV (φ1 [9,0]) (nOf S.X [0] 9) 3) (I i)=some (pt (φ1 [9,0]).b (i * 3) (φ1 [9,0]).ver):=X3e _ a3 _ 3 i .i64 hi;have eb:Xg Qgj [(0,1),(1,1),(2,1),(3,1),(4,1),(5,1),(6,1),(7,1),(8,1),(9,1),(10,1),(11,1),(12,1),(13,1),(14,1)] [(0,.int .i64 (q:Int)),(1,.int .u8 (act:Int)),(4,.int .i64 (-1)),(5,.int .i64 (-1)),(6,.int .i64 (-1)),(7,.int .i64 (-1)),(8,.int .i64 (-1)),(9,.int .i64 (-1))]=some (.agg ⟨(clsR q act).map Cl.raw⟩):=Eq.trans rfl rfl;simp only [q3,X3,ixp,Xh,X9,ldm,eb];refine k1.bsl (cs:=(clsR q act).map Cl.raw) rfl (by decide) fun b2 m2 k2=>?_;refine k2.apk2 (by omega) a1 kt9 (by omega) hf (sz:=15) rfl rfl rfl (X2t (by repeat' (first | exact trivial | exact ok_i _ _ | exact ok_b _ | exact ok_s (Nat.zero_le _) | exact ok_l _ _ | apply And.intro))) (by decide) (K:=fun m=>bp (pur (X8 false 1 (pt bn 0 0) m) m) fun x16 m =>
  bp (conv (.int .u32) (.int .i64 (q:Int)) m) fun x17 m =>
  bp (TA (d + 7) Q7b [x17] m) fun x18 m =>
  ckB (again (pur (X8 false 1 (pt bn 0 0) m) m) x16 && true)
   (bp (X5 Q4 [.string ⟨#[]⟩] 1 3 [(0,sv rmW),(1,x16),(2,x18)] m) fun x19 m =>
  bp (TA (d + 7) Q27 [pt c.P 0 0,.func (.func Q6i) ⟨[pt c.P 0 0]⟩ ⟨[]⟩,x19] m) fun x20 m =>
  some (.tuple ⟨[]⟩,m))) (fun v' m3 hg=>by
   have e:=Xcn k2 (f:=9) (r':=12) (sz:=3) rfl (by omega) rfl (K:=(i * 3 + 1) :: [9,0]) (fun e=>by grind) hg;simp only [e,X5e,Bool.and_true,Xr,ixp,X3,X9];rfl) fun cap2 m3 φ2 hc2 _ k3=>?_
 have ldn:X8 false 1 (pt bn 0 0) m3=some (sv name):=k3.ld (r:=0) (o:=0) (cs:=[sv name]) (List.mem_cons_self ..) rfl;have hcv:conv (.int .u32) (.int .i64 (q:Int)) m3=some (.int .u32 (q:Int),m3):=by grind [c_int,IntWalk.u32_in]
 have ct:TA (d + 7) Q7b [.int .u32 (q:Int)] m3=some (sv (X24 q),m3):=c_addrText q (by omega) (d + 6) m3;simp only [ldn,X3,hcv,X4,ct,X1p,Bool.and_true,Xr];refine k3.bsl (cs:=[rmW,name,X24 q].map sv) rfl (by decide) fun b3 m4 k4=>?_;have hal:=Xl4 q (by omega);refine k4.cs (Xc2 k4.ps (ws:=[rmW,name,X24 q]) (k4.slx (List.mem_cons_self ..)) (by simp) (fun w hw=>by
  simp only [List.mem_cons,List.not_mem_nil,or_false] at hw;rcases hw with rfl | rfl | rfl
  ·decide
  ·exact hnl
  ·omega) bAsk (by decide) (d + 5)) fun m5 k5=>?_
 exact k5.retp (by omega)
theorem Xrd (h:PS c cap m φ s) (hcb:cap + 2 <= 8589934592) (name:Str) (hnl:name.length <= 65536) (act q:Nat) (hq:q <= 65535) (d:Nat):PaD c cap 2 m φ s (TA (d + 8) Q9m [pt c.P 0 0,sv name,.int .u8 (act:Int),.int .i64 (q:Int)] m) (.tuple ⟨[]⟩) (X64 s name act q):=by
 refine h.pad (X70 _ _ _ _ _ _) fun m0 k=>?_;delta Q4c S;refine k.new fun bn m1 k1=>?_;have k1:W c m0 φ s cap m1 φ s [(bn,0,[sv name])]:=k1;obtain ⟨⟨lr,hr0,hr18⟩,q2,q3,_,q5⟩:=k1.ps.dev (f:=9) (r':=12) (sz:=3) rfl (by omega) rfl;have hbn:=(k1.lt (bn,0,[sv name]) (List.mem_cons_self ..)).2;have hgn:=k1.at' (bn,0,[sv name]) (List.mem_cons_self ..);have ix:=c_ixR k1.ps (by omega) hr0 (r:=0) rfl (o:=9) (by omega) rfl name hbn hgn (d + 5);have ix:TA (d + 7) Q1c [slV (φ [9,0]) (nOf s.X [0] 9) 3,.func (.func Q1x) ⟨[]⟩ ⟨[pt bn 0 0]⟩] m1=some (idxV (X6y s.X [0] 9 3 0 name),m1):=ix;delta Qbo Qbn C qr qa;simp only [Xh,X9,X3,Nat.zero_add,q3,ix,X4];delta Qbm D P qa B N Z qp A;unfold X64 rowOf;simp only [Xnn,X3,Int.toNat_natCast];have hi:∀ j,X6y s.X [0] 9 3 0 name=some j->j < nOf s.X [0] 9:=fun j hj=>by
  have:=X7h _ _ _ _ _ _ hj;omega
 generalize X6y s.X [0] 9 3 0 name=i at hi ⊢;cases i with
 | some j =>
  simp only [Option.isNone_some,X6];exact cl_3 k1 (Nat.le_succ _) hcb (hi j rfl) hq hnl d
 | none =>
  simp only [Option.isNone_none,X7];have ldn:X8 false 1 (pt bn 0 0) m1=some (sv name):=k1.ld (r:=0) (o:=0) (cs:=[sv name]) (List.mem_cons_self ..) rfl;have eb:Xg Q93 [(0,1),(1,1),(2,1)] [(0,sv name)]=some (.agg ⟨[sv name,.slice none 0 0,.bool false]⟩):=Eq.trans rfl rfl;simp only [q3,X2y,X3,Xh,X9,Nat.zero_add,ldn,eb];refine k1.bsl (cs:=[sv name,.slice none 0 0,.bool false]) rfl (by decide) fun b2 m2 k2=>?_;have k2:W c m0 φ s cap m2 φ s ((b2,0,[Cl.v (sv name),.s 0 15,.v (.bool false)].map Cl.raw) :: [(bn,0,[sv name])]):=k2;refine k2.apr (by omega) (o:=9) (by omega) (r':=12) rfl (sz:=3) rfl rfl rfl (X2t (And.intro (ok_s (Nat.le_trans hnl (by decide))) (And.intro (ok_l _ _) (And.intro (ok_b _) trivial)))) (by decide) fun cap1 m3 φ1 hc1 _ k3=>?_;have hN:nOf s.X [0] 9 < nOf (s.app [0] 9 [.v (sv name),.s 0 15,.v (.bool false)]).X [0] 9:=by
   show _ < nOf (apF s.X [0] 9 _) [0] 9;obtain ⟨p1,_⟩:=k1.ps.list hr0 (r:=0) rfl (o:=9) (by omega) (r':=12) rfl;rw [Xbf hr0 p1 _ rfl];unfold nOf;rw [X84,List.getElem?_set,if_pos rfl,if_pos hr18,X6i hr0,p1];show nOf s.X [0] 9 < nOf s.X [0] 9 + 1;omega
  exact cl_3 k3 hc1 hcb hN hq hnl d
theorem Xrm (h:PS c cap m φ s) (hcb:cap + 2 <= 8589934592) (d:Nat):PaD c cap 1 m φ s (TA (d + 8) Q9n [pt c.P 0 0,pt c.C 0 0] m) (.tuple ⟨[]⟩) (X4b c s):=by
 refine h.pad (X75 _ _ _ _) fun m0 k=>?_;delta Q4e F C D qr qa B Z qt qy qg qp A E qv;unfold X4b
 try simp only [Xh,X9,X3,Nat.zero_add]
 try dsimp only
 refine k.bsl (cs:=[[111,115,112,102],[98,103,112]].map sv) rfl (by decide) fun bs m1 k1=>?_;refine k1.cl (X6d k1.ps (k1.slx (ws:=[[111,115,112,102],[98,103,112]]) (List.mem_cons_self ..)) (by simp) (d + 4)) fun m2 k2=>?_;generalize oneC c s.cu [[111,115,112,102],[98,103,112]]=O at k2 ⊢;have e0:bin .eql true true .int (I O.1) (.int .i64 0)=some (.bool (decide (O.1=0))):=X3x O.1 0;simp only [e0,X3];refine Xk (fun hb=>?_) (fun hb=>?_)
 ·rw [if_pos (of_decide_eq_true hb)];have hv:=Xps k2.ps;rw [X2f] at hv;refine k2.cl (Xpg k2.ps (d + 1)) fun m3 k3=>?_;rw [X2f] at k3 ⊢;generalize vrfC c O.2=V at k3 hv ⊢;refine k3.bsl (cs:=[[114,111,117,116,101,114],[111,115,112,102],V.1].map sv) rfl (by decide) fun b2 m4 k4=>?_;refine k4.cs (Xc2 k4.ps (ws:=[[114,111,117,116,101,114],[111,115,112,102],V.1]) (k4.slx (List.mem_cons_self ..)) (by simp) (fun w hw=>by
   grind) Xda (by decide) (d + 5)) fun m5 k5=>?_
  obtain ⟨_,_,q3,_,_⟩:=k5.ps.dev (f:=10) (r':=14) (sz:=3) rfl (by omega) rfl;have eb:Xg Qn2 [(0,1),(1,1),(2,1)] [(0,sv V.1)]=some (.agg ⟨[sv V.1,u32 0,.slice none 0 0]⟩):=Eq.trans rfl rfl;simp only [Xh,X9,X3,Nat.zero_add,q3,eb];refine k5.bsl (cs:=[sv V.1,u32 0,.slice none 0 0]) rfl (by decide) fun b3 m6 k6=>?_;have k6:W c m0 φ s cap m6 φ _ ((b3,0,[Cl.v (sv V.1),.v (u32 0),.s 0 4].map Cl.raw) :: _):=k6;refine k6.apr (by omega) (o:=10) (by omega) (r':=14) rfl (sz:=3) rfl rfl rfl (X2t (And.intro (ok_s (Nat.le_trans hv (by decide))) (And.intro (ok_i _ _) (And.intro (ok_l _ _) trivial)))) (by decide) fun cap1 m7 φ1 hc1 _ k7=>?_;exact k7.retp hc1
 ·rw [if_neg (of_decide_eq_false hb)];refine k2.cl (X18 k2.ps 1 4294967295 4294967295 rfl (by omega) (d + 1)) fun m3 k3=>?_;rw [X2f] at k3 ⊢;have hnu:=Xat c O.2 1 4294967295 (by omega);generalize Xb c O.2 1 4294967295=N at k3 hnu ⊢;have hv:=Xps k3.ps;rw [X2f] at hv;refine k3.cl (Xpg k3.ps (d + 1)) fun m4 k4=>?_;rw [X2f] at k4 ⊢;generalize vrfC c N.2=V at k4 hv ⊢;refine k4.bsl (cs:=[[114,111,117,116,101,114],[98,103,112],V.1].map sv) rfl (by decide) fun b2 m5 k5=>?_;refine k5.cs (Xc2 k5.ps (ws:=[[114,111,117,116,101,114],[98,103,112],V.1]) (k5.slx (List.mem_cons_self ..)) (by simp) (fun w hw=>by
   grind) bBgp (by decide) (d + 5)) fun m6 k6=>?_
  obtain ⟨_,_,q3,_,_⟩:=k6.ps.dev (f:=11) (r':=16) (sz:=6) rfl (by omega) rfl;have eb:Xg Qk1 [(0,1),(1,1),(2,1),(3,1),(4,1),(5,1)] [(0,sv V.1),(1,.int .u32 N.1)]=some (.agg ⟨[sv V.1,.int .u32 N.1,u32 0,.slice none 0 0,.slice none 0 0,.slice none 0 0]⟩):=Eq.trans rfl rfl;simp only [Xh,X9,X3,Nat.zero_add,q3,hnu,X4,eb];refine k6.bsl (cs:=[sv V.1,.int .u32 N.1,u32 0,.slice none 0 0,.slice none 0 0,.slice none 0 0]) rfl (by decide) fun b3 m7 k7=>?_;have k7:W c m0 φ s cap m7 φ _ ((b3,0,[Cl.v (sv V.1),.v (.int .u32 N.1),.v (u32 0),.s 0 2,.s 0 6,.s 0 4].map Cl.raw) :: _):=k7;refine k7.apr (by omega) (o:=11) (by omega) (r':=16) rfl (sz:=6) rfl rfl rfl (X2t (And.intro (ok_s (Nat.le_trans hv (by decide))) (And.intro (ok_i _ _) (And.intro (ok_i _ _) (And.intro (ok_l _ _) (And.intro (ok_l _ _) (And.intro (ok_l _ _) trivial))))))) (by decide) fun cap1 m8 φ1 hc1 _ k8=>?_;exact k8.retp hc1
variable {c:Cx} {m0 m:Mem} {φ0 φ:Phi} {s0 s s':PSt} {cap δ:Nat} {ts:List Tmp} {x:Option Rs} {Q:Value->Nat->Phi->PSt->Prop} {v:Value} {cu:Cu}
theorem kt7:kt [7,0]=some 7:=rfl
theorem kt8:kt [8,0]=some 9:=rfl
abbrev roL (v:Str) (a:Nat) (k:Nat) (h:Nat) (d:Bool) (e t:Int):List Value:=[sv v,u32 a,I k,u32 h,.bool d,.int .i64 e,.int .i64 t]
theorem Xub (hcb:cap + 2 <= 8589934592) {t:Int} (hw:w.length <= 65536) (h:W c m0 φ s cap m φ s' ((b,0,roL w a k g dc e t) :: ts)) (d:Nat) :
  Res c m0 φ s (Q8a (d7 d) (pt c.P 0 0) (pt b 0 0) m) (Q_p cap (c.ws.length + 3) (.tuple ⟨[]⟩) (s'.app [0] 6 ((roL w a k g dc e t).map .v))):=by
 delta Q8a qc qa Z qp qv;obtain ⟨_,_,q3,_,_⟩:=h.ps.dev (f:=6) (r':=6) (sz:=7) rfl (by omega) rfl;have ld:X8 true 7 (pt b 0 0) m=some (.agg ⟨roL w a k g dc e t⟩):=h.lds (o:=0) (List.mem_cons_self ..) (by simp) rfl;simp only [Xh,X9,X3,Nat.zero_add,q3,ld];refine h.bsl (cs:=roL w a k g dc e t) rfl (by decide) fun b2 m1 k1=>?_;have k1:W c m0 φ s cap m1 φ s' ((b2,0,((roL w a k g dc e t).map Cl.v).map Cl.raw) :: _):=k1;refine k1.apr (by omega) (o:=6) (by omega) (r':=6) rfl (sz:=7) rfl rfl rfl (X2t (And.intro (ok_s (Nat.le_trans hw (by decide))) (And.intro (ok_i _ _) (And.intro (ok_i _ _) (And.intro (ok_i _ _) (And.intro (ok_b _) (And.intro (ok_i _ _) (And.intro (ok_i _ _) trivial)))))))) (by decide) fun cap1 m2 φ1 hc1 _ k2=>?_;exact k2.retp (by omega)
def roT (c:Cx) (s:PSt) (w:Str) (a k g:Nat) (dc:Bool) (e:Int):PSt:=
 let y:=isC c s.cu [116,97,103];let n:=Xb c y.2 0 16777216
 if y.1=true then (s.at n.2).app [0] 6 ((roL w a k g dc e n.1).map .v) else (s.at y.2).app [0] 6 ((roL w a k g dc e 0).map .v)
theorem Xuk (hcb:cap + 2 <= 8589934592) (hw:w.length <= 65536) (h:W c m0 φ s cap m φ s' ((b,0,roL w a k g dc e 0) :: ts)) (d:Nat) :
  Res c m0 φ s (Q8b (d7 d) (pt c.C 0 0) (pt b 0 0) (pt c.P 0 0) m) (Q_p cap (c.ws.length + 3) (.tuple ⟨[]⟩) (roT c s' w a k g dc e)):=by
 delta Q8b C Q qk A E;unfold roT
 try dsimp only
 refine h.cl (X5n h.ps [116,97,103] (d + 5)) fun m1 k1=>?_;refine Xk (fun hb=>?_) (fun hb=>?_)
 ·rw [if_pos hb];refine k1.cl (X18 k1.ps 0 16777216 16777216 rfl (by omega) (d + 1)) fun m2 k2=>?_
  try simp only [X9,X3,Nat.zero_add]
  refine k2.sto (l1:=[]) (o:=6) (y:=.int .i64 (Xb c (isC c s'.cu [116,97,103]).2 0 16777216).1) (cs':=roL w a k g dc e (Xb c (isC c s'.cu [116,97,103]).2 0 16777216).1) rfl rfl (by show 6 + 1 <= 7; omega) rfl fun m3 k3=>?_;exact Xub hcb hw k3 d
 ·rw [if_neg (by grind)];exact Xub hcb hw k1 d
def roD (c:Cx) (s:PSt) (w:Str) (a k g:Nat) (dc:Bool):PSt:=
 let x:=isC c s.cu [100,105,115,116,97,110,99,101];let n:=Xb c x.2 1 255
 if x.1=true then roT c (s.at n.2) w a k g dc n.1 else roT c (s.at x.2) w a k g dc 1
theorem Xop (hcb:cap + 2 <= 8589934592) (hw:w.length <= 65536) (h:W c m0 φ s cap m φ s' ((b,0,roL w a k g dc 1 0) :: ts)) (d:Nat) :
  Res c m0 φ s (Q8c (d7 d) (pt c.C 0 0) (pt b 0 0) (pt c.P 0 0) m) (Q_p cap (c.ws.length + 3) (.tuple ⟨[]⟩) (roD c s' w a k g dc)):=by
 delta Q8c C Q qk A E;unfold roD
 try dsimp only
 refine h.cl (X5n h.ps [100,105,115,116,97,110,99,101] (d + 5)) fun m1 k1=>?_;refine Xk (fun hb=>?_) (fun hb=>?_)
 ·rw [if_pos hb];refine k1.cl (X18 k1.ps 1 255 255 rfl (by omega) (d + 1)) fun m2 k2=>?_
  try simp only [X9,X3,Nat.zero_add]
  refine k2.sto (l1:=[]) (o:=5) (y:=.int .i64 (Xb c (isC c s'.cu [100,105,115,116,97,110,99,101]).2 1 255).1) (cs':=roL w a k g dc (Xb c (isC c s'.cu [100,105,115,116,97,110,99,101]).2 1 255).1 0) rfl rfl (by show 5 + 1 <= 7; omega) rfl fun m3 k3=>?_;exact Xuk hcb hw k3 d
 ·rw [if_neg (by grind)];exact Xuk hcb hw k1 d
def roV (c:Cx) (s:PSt) (w:Str) (a k:Nat):PSt:=
 let x:=isC c s.cu [100,105,115,99,97,114,100];let h:=hopC c x.2
 if x.1=true then roD c (s.at x.2) w a k 0 true else roD c (s.at h.2) w a k h.1 false
theorem Xyn (hcb:cap + 2 <= 8589934592) (hw:w.length <= 65536) (h:W c m0 φ s cap m φ s' ((b,0,roL w a k 0 false 1 0) :: ts)) (d:Nat) :
  Res c m0 φ s (Qbf (d7 d) (pt c.C 0 0) (pt b 0 0) (pt c.P 0 0) m) (Q_p cap (c.ws.length + 3) (.tuple ⟨[]⟩) (roV c s' w a k)):=by
 delta Qbf C H D qk E;unfold roV
 try dsimp only
 refine h.cl (X5n h.ps [100,105,115,99,97,114,100] (d + 5)) fun m1 k1=>?_;generalize isC c s'.cu [100,105,115,99,97,114,100]=X at k1 ⊢
 try simp only [X9,X3,Nat.zero_add]
 refine k1.sto (l1:=[]) (o:=4) (y:=.bool X.1) (cs':=roL w a k 0 X.1 1 0) rfl rfl (by show 4 + 1 <= 7; omega) rfl fun m2 k2=>?_;have ld:X8 false 1 (pt b 4 0) m2=some (.bool X.1):=k2.ld (List.mem_cons_self ..) rfl;simp only [ld,X3,X63];cases hX:X.1 with
 | true =>
  rw [if_pos rfl];simp only [Bool.not_true,X6];rw [hX] at k2;exact Xop hcb hw k2 d
 | false =>
  rw [if_neg (by decide)];simp only [Bool.not_false,X7];rw [hX] at k2;refine k2.cl (Xtx k2.ps (d + 1)) fun m3 k3=>?_
  try simp only [X2f] at k3 ⊢
  try simp only [X9,X3,Nat.zero_add]
  refine k3.sto (l1:=[]) (o:=3) (y:=u32 (hopC c X.2).1) (cs':=roL w a k (hopC c X.2).1 false 1 0) rfl rfl (by show 3 + 1 <= 7; omega) rfl fun m4 k4=>?_;exact Xop hcb hw k4 d
theorem Xr8 (c:Cx) (s:PSt):X77 c s=(let v:=vrfC c s.cu
  let a:=X1e c v.2;let k:=X35 c a.2 false
  roV c (s.at (netC c k.2 a.1 k.1)) v.1 a.1 k.1):=by
 unfold X77 roV roD roT
 try dsimp only
 generalize vrfC c s.cu=V;generalize X1e c V.2=A;generalize X35 c A.2 false=M;rw [X2f];generalize isC c (netC c M.2 A.1 M.1) [100,105,115,99,97,114,100]=X;by_cases hX:X.1=true
 ·by_cases hD:(isC c X.2 [100,105,115,116,97,110,99,101]).1=true
  ·by_cases hY:(isC c (Xb c (isC c X.2 [100,105,115,116,97,110,99,101]).2 1 255).2 [116,97,103]).1=true
   ·simp only [hX,hD,hY,↓reduceIte,X2f,Bool.false_eq_true]; rfl
   ·simp only [hX,hD,hY,↓reduceIte,X2f,Bool.false_eq_true]; rfl
  ·by_cases hY:(isC c (isC c X.2 [100,105,115,116,97,110,99,101]).2 [116,97,103]).1=true
   ·simp only [hX,hD,hY,↓reduceIte,X2f,Bool.false_eq_true]; rfl
   ·simp only [hX,hD,hY,↓reduceIte,X2f,Bool.false_eq_true]; rfl
 ·by_cases hD:(isC c (hopC c X.2).2 [100,105,115,116,97,110,99,101]).1=true
  ·by_cases hY:(isC c (Xb c (isC c (hopC c X.2).2 [100,105,115,116,97,110,99,101]).2 1 255).2 [116,97,103]).1=true
   ·simp only [hX,hD,hY,↓reduceIte,X2f,Bool.false_eq_true]; rfl
   ·simp only [hX,hD,hY,↓reduceIte,X2f,Bool.false_eq_true]; rfl
  ·by_cases hY:(isC c (isC c (hopC c X.2).2 [100,105,115,116,97,110,99,101]).2 [116,97,103]).1=true
   ·simp only [hX,hD,hY,↓reduceIte,X2f,Bool.false_eq_true]; rfl
   ·simp only [hX,hD,hY,↓reduceIte,X2f,Bool.false_eq_true]; rfl
theorem Xy2 {be:Nat} {g:Int} (h:W c m0 φ s cap1 m φ1 s' ((be,0,enL pm a k g e) :: ts)) (hc1:cap1 <= cap + 1) (hcb:cap + c.ws.length + 3 <= 8589934592) (hi:i < nOf s'.X [0] 7) (d:Nat) :
  Res c m0 φ s (Q7d (d7 d) (pt c.P 0 0) (I i) (pt be 0 0) m) (Q_p cap (c.ws.length + 3) (.tuple ⟨[]⟩) (s'.app [7,0] (i * 2 + 1) [.v (.bool pm),.v (u32 a),.v (I k),.v (.int .i64 g),.v (.int .i64 e)])):=by
 delta Q7d L qj H qi qc P qr qa Y qp qk qv;obtain ⟨_,q2,q3,_,q5⟩:=h.ps.dev (f:=7) (r':=7) (sz:=2) rfl (by omega) rfl;obtain ⟨l7,a1,a2,a3⟩:=q5 (by omega);have hend:=row_end (sz:=2) hi;have hf:fdAt 7 (i * 2 + 1)=some (.l 8):=by rw [fd_row (r:=7) (sz:=2) rfl i 1 (by omega)]; rfl
 obtain ⟨_,_,ldm,_,_⟩:=h.ps.list a1 kt7 (o:=i * 2 + 1) (by omega) hf;have ldm:X8 false 1 (pt (φ1 [7,0]).b (i * 2 + 1) (φ1 [7,0]).ver) m=some (slV (φ1 ((i * 2 + 1) :: [7,0])) (nOf s'.X [7,0] (i * 2 + 1)) 5):=ldm;have ixp:Xa 2 (slV (φ1 [7,0]) (nOf s'.X [0] 7) 2) (I i)=some (pt (φ1 [7,0]).b (i * 2) (φ1 [7,0]).ver):=X3e _ a3 _ 2 i .i64 hi;have lde:X8 true 5 (pt be 0 0) m=some (.agg ⟨enL pm a k g e⟩):=h.lds (o:=0) (List.mem_cons_self ..) (by simp) rfl;simp only [Xh,X9,X3,Nat.zero_add,q3,ixp,ldm,lde];refine h.bsl (cs:=enL pm a k g e) rfl (by decide) fun b2 m2 k2=>?_;have k2:W c m0 φ s cap1 m2 φ1 s' ((b2,0,[Cl.v (.bool pm),.v (u32 a),.v (I k),.v (.int .i64 g),.v (.int .i64 e)].map Cl.raw) :: _):=k2;refine k2.apk2 (by omega) a1 kt7 (by omega) hf (sz:=5) rfl rfl rfl (X2t (And.intro (ok_b _) (And.intro (ok_i _ _) (And.intro (ok_i _ _) (And.intro (ok_i _ _) (And.intro (ok_i _ _) trivial)))))) (by decide) (K:=fun m=>some (.tuple ⟨[]⟩,m)) (fun v' m3 hg=>by
   have e:=Xcn k2 (f:=7) (r':=7) (sz:=2) rfl (by omega) rfl (K:=(i * 2 + 1) :: [7,0]) (fun e=>by grind) hg;simp only [e,X5e,Bool.and_true,Xr,ixp,X3,X9]) fun cap2 m3 φ2 hc2 _ k3=>?_
 exact k3.retp (by omega)
theorem cm_9 {bm:Nat} (h:W c m0 φ s cap1 m φ1 s' ((bm,0,[.bool pm,slV L n 1]) :: (L.b,L.ver,vals.map u32) :: ts)) (hLr:L.r < 2) (hn:vals.length=n) (hn0:n ≠ 0) (hnl:n <= c.ws.length + 1) (hc1:cap1 <= cap + 1) (hcb:cap + c.ws.length + 3 <= 8589934592) (hi:i < nOf s'.X [0] 8) (d:Nat) :
  Res c m0 φ s (Q7e (d7 d) (pt c.P 0 0) (I i) (pt bm 0 0) m) (Q_p cap (c.ws.length + 3) (.tuple ⟨[]⟩) (s'.adopt [8,0] (i * 2 + 1) [.v (.bool pm)] (vals.map u32))):=by
 delta Q7e L qj H qi qc P qr qa Y qp qk qv;obtain ⟨_,q2,q3,_,q5⟩:=h.ps.dev (f:=8) (r':=9) (sz:=2) rfl (by omega) rfl;obtain ⟨l8,a1,a2,a3⟩:=q5 (by omega);have hend:=row_end (sz:=2) hi;have hf:fdAt 9 (i * 2 + 1)=some (.l 10):=by rw [fd_row (r:=9) (sz:=2) rfl i 1 (by omega)]; rfl
 obtain ⟨_,_,ldm,_,_⟩:=h.ps.list a1 kt8 (o:=i * 2 + 1) (by omega) hf;have ldm:X8 false 1 (pt (φ1 [8,0]).b (i * 2 + 1) (φ1 [8,0]).ver) m=some (slV (φ1 ((i * 2 + 1) :: [8,0])) (nOf s'.X [8,0] (i * 2 + 1)) 2):=ldm;have ixp:Xa 2 (slV (φ1 [8,0]) (nOf s'.X [0] 8) 2) (I i)=some (pt (φ1 [8,0]).b (i * 2) (φ1 [8,0]).ver):=X3e _ a3 _ 2 i .i64 hi;have lde:X8 true 2 (pt bm 0 0) m=some (.agg ⟨[.bool pm,slV L n 1]⟩):=h.lds (o:=0) (List.mem_cons_self ..) (by simp) rfl;simp only [Xh,X9,X3,Nat.zero_add,q3,ixp,ldm,lde];have hsl:slV L n 1=.slice (some ⟨L.b,0,some 1⟩) n (2 * L.ver + L.r):=if_neg hn0;refine h.bsl (cs:=[.bool pm,slV L n 1]) (by rw [hsl]; rfl) (by decide) fun b2 m2 k2=>?_;have k2:W c m0 φ s cap1 m2 φ1 s' ((b2,0,[.bool pm] ++ [slV L n 1]) :: (L.b,L.ver,vals.map u32) :: ts):=k2.sub (List.Sublist.cons_cons _ (List.Sublist.cons _ (List.Sublist.refl _)));refine k2.apo hLr (by grind) hn0 (fun v hv=>by
  grind) (by omega) a1 kt8 (by decide) (by omega) hf (sz:=2) rfl rfl rfl (X2t (And.intro (ok_b _) (And.intro (ok_l 11 0) trivial))) rfl (by decide) (K:=fun m=>some (.tuple ⟨[]⟩,m)) (fun v' m3 hg=>by
   have e:=Xcn k2 (f:=8) (r':=9) (sz:=2) rfl (by omega) rfl (K:=(i * 2 + 1) :: [8,0]) (fun e=>by grind) hg;simp only [e,X5e,Bool.and_true,Xr,ixp,X3,X9]) fun cap2 m3 φ2 hc2 k3=>?_
 exact k3.retp (by omega)
theorem Xke (h:PS c cap m φ s) (hf:fdAt 0 f=some (.l r')) (h18:f < 18) (cs:List Cl) (hc:cs.length=rowL r'):nOf s.X [0] f < nOf (s.app [0] f cs).X [0] f:=by
 obtain ⟨l,a,b⟩:=h.wt.root;obtain ⟨p1,_⟩:=h.list a (r:=0) rfl (o:=f) (by omega) hf;show _ < nOf (apF s.X [0] f cs) [0] f;rw [Xbf a p1 _ hc];have e:nOf ((s.X.set [f,0] (some (.c (X25 s.X [f,0] ++ cs)))).set [0] (some (.c (l.set f (.s (nOf s.X [0] f + 1) (rowL r')))))) [0] f=nOf s.X [0] f + 1:=by
  show (match cl _ [0] f with | .s n _=>n | _=>0)=_
  rw [X84,List.getElem?_set,if_pos rfl,if_pos (by omega)];rfl
 rw [e];omega
theorem X10i (h:PS c cap m φ s) (hcb:cap + c.ws.length + 3 <= 8589934592) (d:Nat):PaD c cap (c.ws.length + 3) m φ s (TA (d + 8) Qdb [pt c.P 0 0,pt c.C 0 0] m) (.tuple ⟨[]⟩) (ipC c s):=by
 refine h.pad (Xaj _ _ _ _) fun m0 k=>?_;delta Q7u qr
 try simp only [Xh,X9,X3,Nat.zero_add]
 delta Qg9 C;refine k.cl (X2x k.ps (d + 5)) fun m1 k1=>?_;delta Qg8 B qd E;unfold ipC
 try dsimp only
 generalize (Xf c s.cu).1=w;generalize s.at (Xf c s.cu).2=s1 at k1 ⊢
 try simp only [X1c,Qw,X3]
 delta Qg7 C Q B T S A qd E;refine Xk (fun hb=>?_) (fun hb=>?_)
 ·rw [if_pos (of_decide_eq_true hb),Xr8]
  try dsimp only
  have hv:=Xps k1.ps;refine k1.cl (Xpg k1.ps (d + 1)) fun m2 k2=>?_;generalize vrfC c s1.cu=V at k2 hv ⊢;have eb:Xg Qdd [(0,1),(1,2),(3,1),(4,1),(5,1),(6,1)] [(0,sv V.1),(4,.int .i64 1)]=some (.agg ⟨roL V.1 0 0 0 false 1 0⟩):=Eq.trans rfl rfl;simp only [eb,X3];refine k2.new fun b m3 k3=>?_;refine k3.sto (l1:=[]) (o:=0) (y:=.agg ⟨roL V.1 0 0 0 false 1 0⟩) (cs':=roL V.1 0 0 0 false 1 0) rfl rfl (by show 0 + 7 <= 7; omega) rfl fun m4 k4=>?_;delta Qg5 C;have ha:=Xa1 c V.2;refine k4.cl (X4h k4.ps (d + 2)) fun m5 k5=>?_
  try rw [X2f] at k5 ⊢
  generalize X1e c V.2=A at k5 ha ⊢;delta Qg4 C O T qe;refine k5.cl (Xgr k5.ps false (d + 1)) fun m6 k6=>?_
  try rw [X2f] at k6 ⊢
  generalize X35 c A.2 false=M at k6 ⊢;refine k6.cl (Xrg k6.ps A.1 ha (M.1:Int) (d + 4)) fun m7 k7=>?_
  try rw [X2f] at k7 ⊢
  try simp only [X9,X3,Nat.zero_add]
  refine k7.sto (l1:=[]) (o:=1) (y:=pfx A.1 (M.1:Int)) (cs':=roL V.1 A.1 M.1 0 false 1 0) rfl rfl (by show 1 + 2 <= 7; omega) rfl fun m8 k8=>?_;exact Xyn (by omega) hv k8 d
 rw [if_neg (of_decide_eq_false hb)]
 try simp only [X1c,Qw,X3]
 delta Qg6 F C Q qa B Z qt qp qd E qv;refine Xk (fun hb=>?_) (fun hb=>?_)
 ·rw [if_pos (of_decide_eq_true hb)];have hnm:=X3i k1.ps;refine k1.cl (X38 k1.ps (d + 2)) fun m2 k2=>?_;generalize X17 c s1.cu=N at k2 hnm ⊢;refine k2.bsl (cs:=[[102,105,108,116,101,114],N.1].map sv) rfl (by decide) fun b2 m3 k3=>?_;refine k3.cs (Xc2 k3.ps (ws:=[[102,105,108,116,101,114],N.1]) (k3.slx (List.mem_cons_self ..)) (by simp) (fun w hw=>by
   grind) Xcw (by decide) (d + 5)) fun m4 k4=>?_
  obtain ⟨_,_,q3,_,_⟩:=k4.ps.dev (f:=4) (r':=3) (sz:=2) rfl (by omega) rfl;have eb:Xg Qgi [(0,1),(1,1)] [(0,sv N.1)]=some (.agg ⟨[sv N.1,.slice none 0 0]⟩):=Eq.trans rfl rfl;simp only [Xh,X9,X3,Nat.zero_add,q3,eb];refine k4.bsl (cs:=[sv N.1,.slice none 0 0]) rfl (by decide) fun b3 m5 k5=>?_;have k5:W c m0 φ s cap m5 φ _ ((b3,0,[Cl.v (sv N.1),.s 0 10].map Cl.raw) :: _):=k5;refine k5.apr (by omega) (o:=4) (by omega) (r':=3) rfl (sz:=2) rfl rfl rfl (X2t (And.intro (ok_s (Nat.le_trans hnm (by decide))) (And.intro (ok_l _ _) trivial))) (by decide) fun cap1 m6 φ1 hc1 _ k6=>?_;exact k6.retp (by omega)
 rw [if_neg (of_decide_eq_false hb)]
 try simp only [X1c,Qw,X3]
 delta Qem C Q B T S qd E;refine Xk (fun hb=>?_) (fun hb=>?_)
 ·rw [if_pos (of_decide_eq_true hb)];have hnm:=X3i k1.ps;refine k1.cl (X38 k1.ps (d + 2)) fun m2 k2=>?_;generalize X17 c s1.cu=N at k2 hnm ⊢;refine k2.new fun bn m3 k3=>?_;refine k3.sto (l1:=[]) (o:=0) (y:=sv N.1) (cs':=[sv N.1]) rfl rfl (by show 0 + 1 <= 1; omega) rfl fun m4 k4=>?_;delta Qeh C T S;refine k4.cl (Xrp k4.ps d) fun m5 k5=>?_
  try rw [X2f] at k5 ⊢
  generalize X42 c N.2=E at k5 ⊢;refine k5.new fun be m6 k6=>?_;refine k6.sto (l1:=[]) (o:=0) (y:=enV E.1.1 E.1.2.1 E.1.2.2.1 E.1.2.2.2.1 E.1.2.2.2.2) (cs':=enL E.1.1 E.1.2.1 E.1.2.2.1 E.1.2.2.2.1 E.1.2.2.2.2) rfl rfl (by show 0 + 5 <= 5; omega) rfl fun m7 k7=>?_;delta Qeg C qa;have hx:((s1.at N.2).at E.2).X=s1.X:=rfl;generalize hS:(s1.at N.2).at E.2=S at k7 hx;have hS':s1.at E.2=S:=by rw [<- hS]; rfl
  rw [hS'];obtain ⟨⟨lr,hr0,hr18⟩,q2,q3,_,q5⟩:=k7.ps.dev (f:=7) (r':=7) (sz:=2) rfl (by omega) rfl;have hbn:=(k7.lt (bn,0,[sv N.1]) (by simp)).2;have hgn:=k7.at' (bn,0,[sv N.1]) (by simp);have ix:=c_ixP k7.ps (by omega) hr0 (r:=0) rfl (o:=7) (by omega) rfl N.1 hbn hgn (d + 5);have ix:TA (d + 7) Qt [slV (φ [7,0]) (nOf S.X [0] 7) 2,.func (.func Q2o) ⟨[]⟩ ⟨[pt bn 0 0]⟩] m7=some (idxV (X6y S.X [0] 7 2 0 N.1),m7):=ix;simp only [Xh,X9,X3,Nat.zero_add,q3,ix,X4];delta Qef D P qa B N Z qp A;unfold rowOf;simp only [Xnn,X3];have hi:∀ j,X6y S.X [0] 7 2 0 N.1=some j->j < nOf S.X [0] 7:=fun j hj=>by
   have:=X7h _ _ _ _ _ _ hj;omega
  generalize X6y S.X [0] 7 2 0 N.1=i at hi ⊢;cases i with
  | some j =>
   simp only [Option.isNone_some,X6];exact Xy2 k7 (Nat.le_succ _) hcb (hi j rfl) d
  | none =>
   simp only [Option.isNone_none,X7];have ldn:X8 false 1 (pt bn 0 0) m7=some (sv N.1):=k7.ld (r:=0) (o:=0) (cs:=[sv N.1]) (by simp) rfl;have eb:Xg Qay [(0,1),(1,1)] [(0,sv N.1)]=some (.agg ⟨[sv N.1,.slice none 0 0]⟩):=Eq.trans rfl rfl;simp only [q3,X2y,X3,Xh,X9,Nat.zero_add,ldn,eb];refine k7.bsl (cs:=[sv N.1,.slice none 0 0]) rfl (by decide) fun b2 m8 k8=>?_;have k8:W c m0 φ s cap m8 φ S ((b2,0,[Cl.v (sv N.1),.s 0 5].map Cl.raw) :: _):=k8;refine k8.apr (by omega) (o:=7) (by omega) (r':=7) rfl (sz:=2) rfl rfl rfl (X2t (And.intro (ok_s (Nat.le_trans hnm (by decide))) (And.intro (ok_l _ _) trivial))) (by decide) fun cap1 m9 φ1 hc1 _ k9=>?_;exact Xy2 k9 hc1 hcb (Xke k7.ps rfl (by omega) _ rfl) d
 rw [if_neg (of_decide_eq_false hb)]
 try simp only [X1c,Qw,X3]
 delta Qel F C Q D qc qa B T Z S qt qg qp qk A qd E qo qv;refine Xk (fun hb=>?_) (fun hb=>?_)
 ·rw [if_pos (of_decide_eq_true hb)];have hnm:=X3i k1.ps;refine k1.cl (X38 k1.ps (d + 2)) fun m2 k2=>?_;generalize X17 c s1.cu=N at k2 hnm ⊢;refine k2.new fun bn m3 k3=>?_;refine k3.sto (l1:=[]) (o:=0) (y:=sv N.1) (cs':=[sv N.1]) rfl rfl (by show 0 + 1 <= 1; omega) rfl fun m4 k4=>?_;delta Qek F C B T S qt qg A E;refine k4.bsl (cs:=[[112,101,114,109,105,116],[100,101,110,121]].map sv) rfl (by decide) fun bs m5 k5=>?_;refine k5.cl (X6d k5.ps (k5.slx (ws:=[[112,101,114,109,105,116],[100,101,110,121]]) (List.mem_cons_self ..)) (by simp) (d + 4)) fun m6 k6=>?_
  try rw [X2f] at k6 ⊢
  generalize oneC c N.2 [[112,101,114,109,105,116],[100,101,110,121]]=O at k6 ⊢;have k6:=k6.tl;have e0:bin .eql true true .int (I O.1) (.int .i64 0)=some (.bool (decide (O.1=0))):=X3x O.1 0;simp only [e0,X3];generalize decide (O.1=0)=pm;obtain ⟨L,m7,e7,k7,hLr⟩:=Xl5 k6.ps (d + 3);have e7:TA (d + 7) Q3i [pt c.C 0 0] m6=some (slV L (X1y c (c.ws.length + 1) O.2).1.length 1,m7):=e7;have k7:W c m0 φ s cap m7 φ (((s1.at N.2).at O.2).at (X1y c (c.ws.length + 1) O.2).2) [(L.b,L.ver,(X1y c (c.ws.length + 1) O.2).1.map u32),(bn,0,[sv N.1])]:=k6.join k7;have hlen:=Xao c (c.ws.length + 1) O.2;have hne:=Xdj c c.ws.length O.2;rw [e7,X4];generalize X1y c (c.ws.length + 1) O.2=M at k7 hlen hne ⊢;have hsl:slV L M.1.length 1=.slice (some ⟨L.b,0,some 1⟩) M.1.length (2 * L.ver + L.r):=if_neg hne;have eb:Xg Qi6 [(0,1),(1,1)] [(0,.bool pm),(1,slV L M.1.length 1)]=some (.agg ⟨[.bool pm,slV L M.1.length 1]⟩):=by rw [hsl]; exact Eq.trans rfl rfl
  simp only [eb,X3];refine k7.new fun bm m8 k8=>?_;refine k8.sto (l1:=[]) (o:=0) (y:=.agg ⟨[.bool pm,slV L M.1.length 1]⟩) (cs':=[.bool pm,slV L M.1.length 1]) rfl (by rw [hsl]; rfl) (by show 0 + 2 <= 2; omega) rfl fun m9 k9=>?_;delta Qej C qa;generalize hS:((s1.at N.2).at O.2).at M.2=S at k9;have hS':s1.at M.2=S:=by rw [<- hS]; rfl
  rw [hS'];obtain ⟨⟨lr,hr0,hr18⟩,q2,q3,_,q5⟩:=k9.ps.dev (f:=8) (r':=9) (sz:=2) rfl (by omega) rfl;have hbn:=(k9.lt (bn,0,[sv N.1]) (by simp)).2;have hgn:=k9.at' (bn,0,[sv N.1]) (by simp);have ix:=c_ixC k9.ps (by omega) hr0 (r:=0) rfl (o:=8) (by omega) rfl N.1 hbn hgn (d + 5);have ix:TA (d + 7) Qn [slV (φ [8,0]) (nOf S.X [0] 8) 2,.func (.func Q2p) ⟨[]⟩ ⟨[pt bn 0 0]⟩] m9=some (idxV (X6y S.X [0] 8 2 0 N.1),m9):=ix;simp only [Xh,X9,X3,Nat.zero_add,q3,ix,X4];delta Qei D P qa B N Z qp A;unfold rowOf;simp only [Xnn,X3];have hi:∀ j,X6y S.X [0] 8 2 0 N.1=some j->j < nOf S.X [0] 8:=fun j hj=>by
   have:=X7h _ _ _ _ _ _ hj;omega
  generalize X6y S.X [0] 8 2 0 N.1=i at hi ⊢;cases i with
  | some j =>
   simp only [Option.isNone_some,X6];exact cm_9 k9 hLr rfl hne hlen (Nat.le_succ _) hcb (hi j rfl) d
  | none =>
   simp only [Option.isNone_none,X7];have ldn:X8 false 1 (pt bn 0 0) m9=some (sv N.1):=k9.ld (r:=0) (o:=0) (cs:=[sv N.1]) (by simp) rfl;have eb:Xg Q8d [(0,1),(1,1)] [(0,sv N.1)]=some (.agg ⟨[sv N.1,.slice none 0 0]⟩):=Eq.trans rfl rfl;simp only [q3,X2y,X3,Xh,X9,Nat.zero_add,ldn,eb];refine k9.bsl (cs:=[sv N.1,.slice none 0 0]) rfl (by decide) fun b2 m10 k10=>?_;have k10:W c m0 φ s cap m10 φ S ((b2,0,[Cl.v (sv N.1),.s 0 2].map Cl.raw) :: _):=k10;refine k10.apr (by omega) (o:=8) (by omega) (r':=9) rfl (sz:=2) rfl rfl rfl (X2t (And.intro (ok_s (Nat.le_trans hnm (by decide))) (And.intro (ok_l _ _) trivial))) (by decide) fun cap1 m11 φ1 hc1 _ k11=>?_;exact cm_9 k11 hLr rfl hne hlen hc1 hcb (Xke k9.ps rfl (by omega) _ rfl) d
 rw [if_neg (of_decide_eq_false hb)]
 try simp only [X1c,Qw,X3]
 refine Xk (fun hb=>?_) (fun hb=>?_)
 ·rw [if_pos (of_decide_eq_true hb)];refine k1.bsl (cs:=[[115,111,117,114,99,101],[100,101,115,116,105,110,97,116,105,111,110]].map sv) rfl (by decide) fun bs m2 k2=>?_;refine k2.cl (X6d k2.ps (k2.slx (ws:=[[115,111,117,114,99,101],[100,101,115,116,105,110,97,116,105,111,110]]) (List.mem_cons_self ..)) (by simp) (d + 4)) fun m3 k3=>?_;generalize oneC c s1.cu [[115,111,117,114,99,101],[100,101,115,116,105,110,97,116,105,111,110]]=O at k3 ⊢;have e0:bin .eql true true .int (I O.1) (.int .i64 1)=some (.bool (decide (O.1=1))):=X3x O.1 1;generalize decide (O.1=1)=ds at e0 ⊢;have eb:Xg Qhl [(0,1),(1,1),(2,1)] [(0,.bool ds)]=some (.agg ⟨[.bool ds,sv [],u32 0]⟩):=Eq.trans rfl rfl;simp only [e0,eb,X3];refine k3.new fun b m4 k4=>?_;refine k4.sto (l1:=[]) (o:=0) (y:=.agg ⟨[.bool ds,sv [],u32 0]⟩) (cs':=[.bool ds,sv [],u32 0]) rfl rfl (by show 0 + 3 <= 3; omega) rfl fun m5 k5=>?_;refine k5.cl (Xq9 k5.ps [102,105,108,116,101,114] (d + 4)) fun m6 k6=>?_;have e1:(s1.at O.2).cu=O.2:=rfl
  try rw [e1] at k6
  try rw [e1]
  have hnm:=X3i k6.ps;rw [X2f] at hnm;refine k6.cl (X38 k6.ps (d + 2)) fun m7 k7=>?_
  try rw [X2f] at k7 ⊢
  generalize X17 c (Xbm c O.2 [102,105,108,116,101,114])=N at k7 hnm ⊢
  try simp only [X9,X3,Nat.zero_add]
  refine k7.sto (l1:=[]) (o:=1) (y:=sv N.1) (cs':=[.bool ds,sv N.1,u32 0]) rfl rfl (by show 1 + 1 <= 3; omega) rfl fun m8 k8=>?_;refine k8.cl (Xq9 k8.ps [116,111] (d + 4)) fun m9 k9=>?_;have e2:(((s1.at O.2).at (Xbm c O.2 [102,105,108,116,101,114])).at N.2).cu=N.2:=rfl
  try rw [e2] at k9
  try rw [e2]
  try rw [X2f] at k9 ⊢
  refine k9.cl (X4h k9.ps (d + 2)) fun m10 k10=>?_
  try rw [X2f] at k10 ⊢
  generalize X1e c (Xbm c N.2 [116,111])=A at k10 ⊢;refine k10.sto (l1:=[]) (o:=2) (y:=u32 A.1) (cs':=[.bool ds,sv N.1,u32 A.1]) rfl rfl (by show 2 + 1 <= 3; omega) rfl fun m11 k11=>?_;obtain ⟨_,_,q3,_,_⟩:=k11.ps.dev (f:=5) (r':=5) (sz:=3) rfl (by omega) rfl;have ld:X8 true 3 (pt b 0 0) m11=some (.agg ⟨[.bool ds,sv N.1,u32 A.1]⟩):=k11.lds (o:=0) (List.mem_cons_self ..) (by simp) rfl;simp only [Xh,X9,X3,Nat.zero_add,q3,ld];refine k11.bsl (cs:=[.bool ds,sv N.1,u32 A.1]) rfl (by decide) fun b2 m12 k12=>?_;have k12:W c m0 φ s cap m12 φ _ ((b2,0,[Cl.v (.bool ds),.v (sv N.1),.v (u32 A.1)].map Cl.raw) :: _):=k12;refine k12.apr (by omega) (o:=5) (by omega) (r':=5) rfl (sz:=3) rfl rfl rfl (X2t (And.intro (ok_b _) (And.intro (ok_s (Nat.le_trans hnm (by decide))) (And.intro (ok_i _ _) trivial)))) (by decide) fun cap1 m13 φ1 hc1 _ k13=>?_;exact k13.retp (by omega)
 ·rw [if_neg (of_decide_eq_false hb)];exact (k1.badr 130 (by decide) (d + 5) rfl).pd
variable {c:Cx} {m0 m:Mem} {φ0 φ:Phi} {s0 s s':PSt} {cap δ:Nat} {ts:List Tmp} {x:Option Rs} {Q:Value->Nat->Phi->PSt->Prop} {v:Value} {cu:Cu}
theorem Xwm (h:∀ w ∈ ws,w.length <= 65536) (hn:ws.length <= 16):(X2q [32] ws).length <= 140737488355328:=by
 have:=Xbs 65536 ws h;exact Nat.le_trans this (Nat.le_trans (Nat.mul_le_mul_right _ hn) (by decide))
theorem PaD.ret (h:W c m0 φ s cap m φ s' []) {w:Value} (law:PaD c cap δ m φ s' y w S) (hd:δ <= δ'):Res c m0 φ s (bp y fun _ m=>some (.tuple ⟨[]⟩,m)) (Q_p cap δ' (.tuple ⟨[]⟩) S):=
 h.pd law fun cap1 m1 φ1 hc1 k1=>k1.retp (by omega)
theorem Xxr (h:PS c cap m φ s) (hcb:cap + c.ws.length + 3 <= 8589934592) (d:Nat):PaD c cap (c.ws.length + 3) m φ s (TA (d + 9) Q98 [pt c.P 0 0,pt c.C 0 0] m) (.tuple ⟨[]⟩) (topC c s):=by
 refine h.pad (X9p _ _ _ _) fun m0 k=>?_;delta Q6z F C D qr qa B Z qx qw qt qy qp A qd E qo qv
 try simp only [Xh,X9,X3,Nat.zero_add]
 refine k.cl (X2x k.ps (d + 6)) fun m1 k1=>?_;unfold topC
 try dsimp only
 generalize (Xf c s.cu).1=w;generalize s.at (Xf c s.cu).2=s1 at k1 ⊢
 try simp only [X1c,Qw,X3]
 refine Xk (fun hb=>?_) (fun hb=>?_)
 ·rw [if_pos (of_decide_eq_true hb)];have hnm:=X3i k1.ps;refine k1.cl (X38 k1.ps (d + 3)) fun m2 k2=>?_;generalize X17 c s1.cu=N at k2 hnm ⊢
  try simp only [Xh,X9,X3,Nat.zero_add]
  refine k2.str1 (o:=0) (x:=sv N.1) rfl rfl (by omega) (.inl (by omega)) (by show okc (fdAt 0 0) _; exact ok_s (Nat.le_trans hnm (by decide))) fun m3 k3=>?_;refine k3.bsl (cs:=[[104,111,115,116,110,97,109,101]].map sv) rfl (by decide) fun b2 m4 k4=>?_;refine k4.cs (X9x k4.ps (ws:=[[104,111,115,116,110,97,109,101]]) (k4.slx (List.mem_cons_self ..)) (by decide) (by decide) (d + 7)) fun m5 k5=>?_;exact k5.retp (by omega)
 rw [if_neg (of_decide_eq_false hb)]
 try simp only [X1c,Qw,X3]
 refine Xk (fun hb=>?_) (fun hb=>?_)
 ·rw [if_pos (of_decide_eq_true hb)];have hnm:=X3i k1.ps;refine k1.cl (X38 k1.ps (d + 3)) fun m2 k2=>?_;generalize X17 c s1.cu=N at k2 hnm ⊢;refine k2.bsl (cs:=[[118,114,102],N.1].map sv) rfl (by decide) fun b2 m3 k3=>?_;have hl:∀ w ∈ [[118,114,102],N.1],w.length <= 65536:=fun w hw=>by
   grind
  refine k3.cs (X9x k3.ps (ws:=[[118,114,102],N.1]) (k3.slx (List.mem_cons_self ..)) (by simp) (Xwm hl (by simp)) (d + 7)) fun m4 k4=>?_;obtain ⟨_,_,q3,_,_⟩:=k4.ps.dev (f:=2) (r':=1) (sz:=1) rfl (by omega) rfl;simp only [Xh,X9,X3,Nat.zero_add,q3];refine k4.bsl (cs:=[sv N.1]) rfl (by decide) fun b3 m5 k5=>?_;have k5:W c m0 φ s cap m5 φ _ ((b3,0,[Cl.v (sv N.1)].map Cl.raw) :: _):=k5;refine k5.apr (by omega) (o:=2) (by omega) (r':=1) rfl (sz:=1) rfl rfl rfl (X2t (And.intro (ok_s (Nat.le_trans hnm (by decide))) trivial)) (by decide) fun cap1 m6 φ1 hc1 _ k6=>?_;exact k6.retp (by omega)
 rw [if_neg (of_decide_eq_false hb)]
 try simp only [X1c,Qw,X3]
 refine Xk (fun hb=>?_) (fun hb=>?_)
 ·rw [if_pos (of_decide_eq_true hb)];have hnm:=X3i k1.ps;refine k1.cl (X38 k1.ps (d + 3)) fun m2 k2=>?_;generalize X17 c s1.cu=N at k2 hnm ⊢;refine k2.bsl (cs:=[[105,110,116,101,114,102,97,99,101],N.1].map sv) rfl (by decide) fun b2 m3 k3=>?_;refine k3.cs (Xc2 k3.ps (ws:=[[105,110,116,101,114,102,97,99,101],N.1]) (k3.slx (List.mem_cons_self ..)) (by simp) (fun w hw=>by
   simp only [List.mem_cons,List.not_mem_nil,or_false] at hw;rcases hw with rfl | rfl
   ·decide
   ·omega) X6t (by decide) (d + 6)) fun m4 k4=>?_
  obtain ⟨_,_,q3,_,_⟩:=k4.ps.dev (f:=3) (r':=2) (sz:=11) rfl (by omega) rfl;have eb:Xg Qh3 [(0,1),(1,1),(2,1),(3,1),(4,1),(5,1),(6,1),(7,1),(8,1),(9,1),(10,1)] [(0,sv N.1),(8,.int .i64 (-1)),(9,.int .i64 10)]=some (.agg ⟨[sv N.1,sv [],u32 0,I 0,.bool false,sv [],sv [],.int .u8 0,.int .i64 (-1),I 10,.bool false]⟩):=Eq.trans rfl rfl;simp only [Xh,X9,X3,Nat.zero_add,q3,eb];refine k4.bsl (cs:=[sv N.1,sv [],u32 0,I 0,.bool false,sv [],sv [],.int .u8 0,.int .i64 (-1),I 10,.bool false]) rfl (by decide) fun b3 m5 k5=>?_;have k5:W c m0 φ s cap m5 φ _ ((b3,0,[Cl.v (sv N.1),.v (sv []),.v (u32 0),.v (I 0),.v (.bool false),.v (sv []),.v (sv []),.v (.int .u8 0),.v (.int .i64 (-1)),.v (I 10),.v (.bool false)].map Cl.raw) :: _):=k5;refine k5.apr (by omega) (o:=3) (by omega) (r':=2) rfl (sz:=11) rfl rfl rfl (X2t (by repeat' (first | exact trivial | exact ok_i _ _ | exact ok_b _ | exact ok_s (Nat.le_trans hnm (by decide)) | exact ok_s (Nat.zero_le _) | apply And.intro))) (by decide) fun cap1 m6 φ1 hc1 _ k6=>?_
  exact k6.retp (by omega)
 rw [if_neg (of_decide_eq_false hb)]
 try simp only [X1c,Qw,X3]
 refine Xk (fun hb=>?_) (fun hb=>?_)
 ·rw [if_pos (of_decide_eq_true hb)];exact PaD.ret k1 (X10i k1.ps hcb d) (Nat.le_refl _)
 rw [if_neg (of_decide_eq_false hb)]
 try simp only [X1c,Qw,X3]
 refine Xk (fun hb=>?_) (fun hb=>?_)
 ·rw [if_pos (of_decide_eq_true hb)];have hnm:=X3i k1.ps;refine k1.cl (X38 k1.ps (d + 3)) fun m2 k2=>?_;generalize X17 c s1.cu=N at k2 hnm ⊢;refine k2.bsl (cs:=[.int .u8 1,.int .u8 0,.int .u8 2]) rfl (by decide) fun bb m3 k3=>?_;refine k3.bsl (cs:=[[112,101,114,109,105,116],[100,101,110,121],[110,101,120,116]].map sv) rfl (by decide) fun bs m4 k4=>?_;have lt:=Xg0 c N.2 [[112,101,114,109,105,116],[100,101,110,121],[110,101,120,116]] (by simp);refine k4.cl (X6d k4.ps (k4.slx (ws:=[[112,101,114,109,105,116],[100,101,110,121],[110,101,120,116]]) (List.mem_cons_self ..)) (by simp) (d + 5)) fun m5 k5=>?_;rw [X2f] at k5 ⊢;generalize oneC c N.2 [[112,101,114,109,105,116],[100,101,110,121],[110,101,120,116]]=O at k5 lt ⊢;have lt:O.1 < 3:=lt;have ix:Xa 1 (.slice (some ⟨bb,0,some 1⟩) 3 1) (I O.1)=some (pt bb (O.1 * 1) 0):=X3e ⟨bb,0,1⟩ (by simp) 3 1 O.1 .i64 lt;have ldx:X8 false 1 (pt bb (O.1 * 1) 0) m5=some (.int .u8 ((if O.1=0 then 1 else if O.1=1 then 0 else 2:Nat):Int)):=k5.ld (List.mem_cons_of_mem _ (List.mem_cons_self ..)) (by
   grind)
  simp only [ix,X3,ldx];refine k5.cl (X18 k5.ps 1 65535 65535 rfl (by omega) (d + 2)) fun m6 k6=>?_;rw [X2f] at k6 ⊢;have hrng:=X8w c O.2 1 65535;generalize Xb c O.2 1 65535=Z at k6 hrng ⊢;obtain ⟨z,hz⟩:∃ z:Nat,Z.1=(z:Int):=⟨Z.1.toNat,(Int.toNat_of_nonneg hrng.1).symm⟩
  rw [hz] at hrng ⊢;have k6:=k6.sub (ts':=[]) (List.nil_sublist _);exact PaD.ret k6 (Xrd k6.ps (by omega) N.1 hnm _ z (by omega) d) (by omega)
 rw [if_neg (of_decide_eq_false hb)]
 try simp only [X1c,Qw,X3]
 refine Xk (fun hb=>?_) (fun hb=>?_)
 ·rw [if_pos (of_decide_eq_true hb)];exact PaD.ret k1 (Xrm k1.ps (by omega) d) (by omega)
 ·rw [if_neg (of_decide_eq_false hb)];exact (k1.badr 130 (by decide) (d + 6) rfl).pd
def isSp (b:UInt8):Bool:=decide (b=32)
def trimS (s:Str):Str:=s.dropWhile isSp
theorem X5h (s:Str):(trimS s).length <= s.length:=by
 unfold trimS
 induction s with
 | nil=>exact Nat.le_refl _
 | cons a l ih =>
  rw [List.dropWhile_cons];split
  ·grind
  ·simp
theorem Xyb (a:UInt8) (l:Str):Xw (sv (a :: l)) (some (.int .i64 1)) none=some (sv l):=X9c (a :: l) 1 (by simp)
theorem Xh8 (G:Gt) (m:Mem):∀ (s:Str) (f:Nat),s.length < f->Q26 G f (sv s) (.int .u8 32) m=some (sv (trimS s),m)
 | [],f + 1,h=>by
  rfl
 | a :: l,f + 1,h=>by
  have hl:l.length < f:=by grind
  unfold Q26;delta D B N qe A;have e1:bin .gtr true true .int (.int .i64 ((a :: l).length:Int)) (.int .i64 0)=some (.bool true):=by rfl
  have e2:Xe (sv (a :: l)) (.int .i64 0)=some (.int .u8 (a.toNat:Int)):=X56 (a :: l) .i64 0 (by simp);have e3:bin .eql false true .int (.int .u8 (a.toNat:Int)) (.int .u8 32)=some (.bool (isSp a)):=by
   rw [Q79];unfold isSp;congr 2;rw [decide_eq_decide];constructor
   ·intro e;apply UInt8.toNat_inj.mp;show a.toNat=32;omega
   ·simp_all
  simp only [X36,X3,e1,X7,e2,e3];delta Q7g Q B A;unfold trimS;rw [List.dropWhile_cons];cases isSp a with
  | true =>
   rw [X7,Xyb,X3,if_pos rfl];exact Xh8 G m l f hl
  | false =>
   rw [X6,if_neg (by decide)];delta Qb2 K;rfl
theorem c_TrimLeft (s:Str) (hs:s.length <= 4194304) (d:Nat) (m:Mem):TA (d + 2) Q4r [sv s,sv [32]] m=some (sv (trimS s),m):=by
 have hb:∀ m,TA (d + 1) Q5z [sv s,.int .u8 32] m=some (sv (trimS s),m):=fun m=>by
  rw [X6k];refine X1t (m1:=withLow m m.next) ?_ (Fr.refl _ _) rfl;unfold Q3q Qb3;exact Xh8 _ _ s 18446744073709551616 (by omega)
 rw [X99];refine X1t (m1:=withLow m m.next) ?_ (Fr.refl _ _) rfl;generalize withLow m m.next=m0;delta Q71 Qfe D B qd qf E;have e0:bin .eql true true .str (sv [32]) (.string ⟨#[]⟩)=some (.bool false):=Qw _ _ _ [];have e1:bin .eql true true .str (sv s) (.string ⟨#[]⟩)=some (.bool (decide (s=[]))):=Qw _ _ _ [];simp only [e0,e1,X3];by_cases h:s=[]
 ·subst h;rw [decide_eq_true rfl,X7];delta Q7s Q K;rw [X7];rfl
 ·rw [decide_eq_false h,X6];delta Q7s Q K;rw [X6];delta Qfd D B N qg qe A;have e2:bin .eql true true .int (.int .i64 (([32]:Str).length:Int)) (.int .i64 1)=some (.bool true):=by rfl
  have e3:Xe (sv [32]) (.int .i64 0)=some (.int .u8 32):=X56 [32] .i64 0 (by simp);have e4:bin .lss true true .int (.int .u8 32) (.int .u8 128)=some (.bool true):=by rfl
  simp only [X36,X3,e2,X7,e3,e4];delta Qan C Q B K T S U A;simp only [X7,e3,X3,hb,X4]
def X32 (n:Nat):Nat->Str->List Wd
 | 0,_=>[]
 | f + 1,rest=>if rest=[] then [] else ((cutO 32 rest).1,n - rest.length + 1) :: X32 n f (trimS (cutO 32 rest).2.1)
def rowP (row:Str):Option (Nat × List Wd):=
 let rest:=trimS row
 if rest=[]\/rest.head?=some 33 then none else some (row.length - rest.length,X32 row.length (row.length + 1) rest)
def X3d (ln:Nat) (ws:List Wd):List Value:=ws.flatMap fun w=>[sv w.1,I ln,I w.2]
theorem Xeb (ln:Nat) (ws:List Wd):(X3d ln ws).length=ws.length * 3:=by
 unfold X3d
 induction ws with
 | nil=>rfl
 | cons w l ih=>rw [List.flatMap_cons,List.length_append,ih,List.length_cons]; simp; omega
theorem Xna (ln:Nat) (a b:List Wd):X3d ln (a ++ b)=X3d ln a ++ X3d ln b:=by unfold X3d; exact List.flatMap_append
theorem Xjp (h:rest ≠ []):(cutO 32 rest).2.1.length < rest.length:=by
 unfold cutO;cases hc:cut 32 rest with
 | none=>exact List.length_pos_iff.mpr h
 | some p =>
  have:=X8s hc;show p.2.length < rest.length;omega
def WsAt (B:Nat) (m:Mem) (ln:Nat) (L:Lc) (ws:List Wd):Prop:=ws ≠ []->B <= L.b/\L.b < m.next/\L.r < 2/\∃ ty,m.get L.b=some (.cells (X3d ln ws) L.ver 0 false ty)
theorem Xeu (d:Nat) (k0:Value->Value->Value->Value->Value->Mem->Option Rs) (row:Str) (hrow:row.length <= 4194304) (i bl:Nat) (ind:Nat) (hi:i <= 4194304) (p7 p28 p27 p26 p3:Value):∀ (f F:Nat) (rest:Str) (ws:List Wd) (L:Lc) (m:Mem),rest.length < f->rest.length < F->rest.length <= row.length->ws.length + rest.length <= 4194304 ->
  (∃ ty,m.get bl=some (.cells [I ind,slV L ws.length 3] 0 0 false ty))->bl < m.next->WsAt (bl + 1) m (i + 1) L ws ->
  ∃ m' L',Qdv ⟨TA (d + 3),18446744073709551616⟩ k0 F (sv rest) (sv row) (pt bl 0 0) (I i) p7 p28 p27 p26 p3 m=Qgu ⟨TA (d + 3),18446744073709551616⟩ k0 p7 (pt bl 0 0) p28 p27 p26 p3 m' /\
   (∃ ty,m'.get bl=some (.cells [I ind,slV L' (ws ++ X32 row.length f rest).length 3] 0 0 false ty))/\WsAt (bl + 1) m' (i + 1) L' (ws ++ X32 row.length f rest)/\Fb bl m m'
 | f + 1,F + 1,rest,ws,L,m,h1,h2,h3,h4,hbl,hlt,hws=>by
  unfold Qdv;delta C H D B N U X qp qk A E;unfold X32;have e0:bin .neq true true .str (sv rest) (.string ⟨#[]⟩)=some (.bool (decide (rest ≠ []))):=Qmw _ _ _ [];simp only [e0,X3];by_cases hr:rest=[]
  ·rw [decide_eq_false (fun h=>h hr),X6,if_pos hr,List.append_nil];exact ⟨m,L,rfl,hbl,hws,.refl _ _⟩
  ·rw [decide_eq_true hr,X7,if_neg hr];have hcl:=Xfe 32 rest;have hcut:TA (d + 3) Q4w [sv rest,.string ⟨#[32]⟩] m=_:=c_CutO rest (by omega) 32 (d + 1) m;have e1:bin .sub false true .int (.int .i64 (row.length:Int)) (.int .i64 (rest.length:Int))=some (I (row.length - rest.length:Nat)):=by
    rw [Qhs];have:(row.length:Int) - (rest.length:Int)=((row.length - rest.length:Nat):Int):=by omega
    rw [this,wrap64 _ (by omega)]
   have e2:bin .add true true .int (I (row.length - rest.length:Nat)) (.int .i64 1)=some (I (row.length - rest.length + 1:Nat)):=by
    rw [Q35];have:((row.length - rest.length:Nat):Int) + 1=((row.length - rest.length + 1:Nat):Int):=by omega
    rw [this,wrap64 _ (by omega)]
   have e3:bin .add true true .int (I i) (.int .i64 1)=some (I (i + 1:Nat)):=by
    grind [Q35,wrap64]
   have e4:Xg Q3 [(0,1),(1,1)] [(0,I (i + 1:Nat)),(1,I (row.length - rest.length + 1:Nat))]=some (posV (i + 1) (row.length - rest.length + 1)):=Eq.trans rfl rfl;have e5:Xg Qf6 [(0,1),(1,2)] [(0,sv (cutO 32 rest).1),(1,posV (i + 1) (row.length - rest.length + 1))]=some (.agg ⟨[sv (cutO 32 rest).1,I (i + 1:Nat),I (row.length - rest.length + 1:Nat)]⟩):=Eq.trans rfl rfl;obtain ⟨tyb,hb⟩:=hbl;have ld:X8 false 1 (pt bl 1 0) m=some (slV L ws.length 3):=X12 hb rfl
   -- the word's block
   have e6:X5 Qag Qf6 3 1 [(0,.agg ⟨[sv (cutO 32 rest).1,I (i + 1:Nat),I (row.length - rest.length + 1:Nat)]⟩)] m=some (.slice (some ⟨m.next,0,some 3⟩) 1 1,m.push (.cells [sv (cutO 32 rest).1,I (i + 1:Nat),I (row.length - rest.length + 1:Nat)] 0 0 false (some (2 * Qag)))):=Eq.trans rfl rfl;generalize hm1:m.push (.cells [sv (cutO 32 rest).1,I (i + 1:Nat),I (row.length - rest.length + 1:Nat)] 0 0 false (some (2 * Qag)))=m1 at e6;have hm1n:m1.next=m.next + 1:=by rw [<- hm1]; rfl
   have hm1l:m1.low=m.low:=by rw [<- hm1]; rfl
   have hm1g:∀ b,b < m.next->m1.get b=m.get b:=fun b hb=>by rw [<- hm1,Mem.get_push,if_neg (by omega)]
   have hm1b:m1.get m.next=some (.cells [sv (cutO 32 rest).1,I (i + 1:Nat),I (row.length - rest.length + 1:Nat)] 0 0 false (some (2 * Qag))):=by rw [<- hm1,Mem.get_push,if_pos rfl]
   have hF1:Fb bl m m1:=by rw [<- hm1]; exact Fb.push _ (by omega)
   have hty:∃ ty,ws.length ≠ 0->m1.get L.b=some (.cells (X3d (i + 1) ws) L.ver 0 false ty):=by
    by_cases hz:ws=[]
    ·simp_all
    ·obtain ⟨_,q2,_,ty,q4⟩:=hws hz;exact ⟨ty,fun _=>by grind⟩
   obtain ⟨ty1,hgt⟩:=hty;have hws':∀ {p:Prop},(ws ≠ []->p)->ws.length ≠ 0->p:=fun h q=>h (fun e=>q (by rw [e]; rfl));obtain ⟨L',ty',m2,k1,k2,k3,k4,k5⟩:=Xfo (e:=Qag) (bytes:=32) (L:=L) (n:=ws.length) (size:=3) (c:=X3d (i + 1) ws) (new:=[sv (cutO 32 rest).1,I (i + 1:Nat),I (row.length - rest.length + 1:Nat)]) hgt (hws' fun h=>(hws h).2.2.1) (Xeb _ _) hm1b rfl rfl (by omega) (Xas (by omega) (by decide));have hLb:bl + 1 <= L'.b:=by
    rcases k5 with ⟨a,b,_⟩ | ⟨a,_⟩
    ·rw [a]; exact hws' (fun h=>(hws h).1) b
    ·omega
   have hLn:L'.b < m2.next:=by
    rcases k5 with ⟨a,b,c,_⟩ | ⟨a,b,_⟩
    ·rw [a,c];have:=hws' (fun h=>(hws h).2.1) b;omega
    ·omega
   have hF2:Fb bl m1 m2:={
    next:=by omega
    low:=by omega
    low2:=fun x a b=>by
     omega
    get:=fun b hb=>k4 b (by omega) (by omega)
    lo:=fun b hb=>by
     grind }
   have hb2:m2.get bl=some (.cells [I ind,slV L ws.length 3] 0 0 false tyb):=by grind
   have hv1:(slV L' (ws.length + 1) 3).cells=#[slV L' (ws.length + 1) 3]:=by rfl
   obtain ⟨m3,s1,s2,s3,s4,s5⟩:=Xl0 (o:=1) hb2 (slV L' (ws.length + 1) 3) (by rw [hv1]) (X76 _ _ _) (by simp) (Nat.le_refl bl);have hd:trimS (cutO 32 rest).2.1=trimS (cutO 32 rest).2.1:=rfl;have hlt2:=Xjp hr;have htl:=X5h (cutO 32 rest).2.1;have ct:TA (d + 3) Q4r [sv (cutO 32 rest).2.1,.string ⟨#[32]⟩] m3=some (sv (trimS (cutO 32 rest).2.1),m3):=c_TrimLeft _ (by omega) (d + 1) m3;have hw3:WsAt (bl + 1) m3 (i + 1) L' (ws ++ [((cutO 32 rest).1,row.length - rest.length + 1)]):=fun _=>⟨hLb,by omega,k3,ty',by
    rw [s5 _ (by omega),Xna]; exact k2⟩
   have hbl3:∃ ty,m3.get bl=some (.cells [I ind,slV L' (ws ++ [((cutO 32 rest).1,row.length - rest.length + 1)]).length 3] 0 0 false ty):=⟨tyb,by
    grind⟩
   obtain ⟨m',L'',q1,q2,q3,q4⟩:=Xeu d k0 row hrow i bl ind hi p7 p28 p27 p26 p3 f F (trimS (cutO 32 rest).2.1) (ws ++ [((cutO 32 rest).1,row.length - rest.length + 1)]) L' m3 (by omega) (by omega) (by omega) (by grind) hbl3 (by omega) hw3;rw [List.append_assoc] at q2 q3;refine ⟨m',L'',?_,q2,q3,hF1.trans (hF2.trans (s2.trans q4))⟩;simp only [X36,X3,e1,e2,hcut,X4,ex0,ex1,ex2,X9,Nat.zero_add,ld,e3,e4,e5,e6,k1,s1,Xo,ct];exact q1
structure Ln where
 ind:Nat
 ln:Nat
 ws:List Wd
def X11:List Str->Nat->List Ln
 | [],_=>[]
 | r :: l,i=>match rowP r with | some x=>⟨x.1,i + 1,x.2⟩ :: X11 l (i + 1) | none=>X11 l (i + 1)
def X6b (l:List (Ln × Lc)):List Value:=l.flatMap fun x=>[I x.1.ind,slV x.2 x.1.ws.length 3]
theorem Xe5 (l:List (Ln × Lc)):(X6b l).length=l.length * 2:=by
 unfold X6b
 induction l with
 | nil=>rfl
 | cons w l ih=>rw [List.flatMap_cons,List.length_append,ih,List.length_cons]; simp; omega
theorem Xn7 (a b:List (Ln × Lc)):X6b (a ++ b)=X6b a ++ X6b b:=by unfold X6b; exact List.flatMap_append
def LnAt (B:Nat) (m:Mem) (x:Ln × Lc):Prop:=x.1.ws ≠ []/\B <= x.2.b/\x.2.b < m.next/\x.2.r < 2/\∃ ty,m.get x.2.b=some (.cells (X3d x.1.ln x.1.ws) x.2.ver 0 false ty)
structure OutAt (B:Nat) (m:Mem) (L:Lc) (l:List (Ln × Lc)):Prop where
 out:l ≠ []->B <= L.b/\L.b < m.next/\L.r < 2/\∃ ty,m.get L.b=some (.cells (X6b l) L.ver 0 false ty)
 ls:∀ x ∈ l,LnAt B m x/\x.2.b ≠ L.b
theorem LnAt.keep {m:Mem} {x:Ln × Lc} (h:LnAt B m x) (hn:m.next <= m'.next) (hg:m'.get x.2.b=m.get x.2.b):LnAt B m' x:=by
 obtain ⟨h1,h2,h3,h4,ty,h5⟩:=h;exact ⟨h1,h2,by omega,h4,ty,by grind⟩
theorem Xr7 (h:rest ≠ []):X32 n (f + 1) rest ≠ []:=by simp_all [X32,if_neg]
theorem Xw8 {bl b2:Nat} {m:Mem} {l:List (Ln × Lc)} {x:Ln} {Lw:Lc} (h:OutAt B m L l) (hlen:l.length <= 4194304) (hB:B <= bl) (hx:LnAt (bl + 1) m (x,Lw)) (hold:∀ y ∈ l,y.2.b < bl) (hL:l ≠ []->L.b < bl) (hb2:m.get b2=some (.cells [I x.ind,slV Lw x.ws.length 3] 0 0 false (some (2 * Q45)))) (hbn:bl < m.next) :
  ∃ m' L',apS Q45 2 32 (slV L l.length 2) (.slice (some ⟨b2,0,some 2⟩) 1 1) m=some (slV L' (l.length + 1) 2,m')/\OutAt B m' L' (l ++ [(x,Lw)])/\Fb B m m'/\m.next <= m'.next:=by
 have hne:∀ {p:Prop},(l ≠ []->p)->l.length ≠ 0->p:=fun h q=>h (fun e=>q (by rw [e]; rfl));have hty:∃ ty,l.length ≠ 0->m.get L.b=some (.cells (X6b l) L.ver 0 false ty):=by
  by_cases hz:l=[]
  ·exact ⟨none,fun q=>absurd (by rw [hz]; rfl) q⟩
  ·obtain ⟨_,_,_,ty,q4⟩:=h.out hz;exact ⟨ty,fun _=>q4⟩
 obtain ⟨ty1,hgt⟩:=hty;obtain ⟨L',ty',m2,k1,k2,k3,k4,k5⟩:=Xfo (e:=Q45) (bytes:=32) (L:=L) (n:=l.length) (size:=2) (c:=X6b l) (new:=[I x.ind,slV Lw x.ws.length 3]) hgt (hne fun q=>(h.out q).2.2.1) (Xe5 _) hb2 rfl (by show (one (I x.ind) && (one (slV Lw x.ws.length 3) && true))=true; rw [X76]; rfl) (by omega) (Xas (by omega) (by decide));have hn:m.next <= m2.next:=by omega
 have hLB:B <= L'.b:=by
  rcases k5 with ⟨a,b,_⟩ | ⟨a,_⟩
  ·rw [a]; exact hne (fun q=>(h.out q).1) b
  ·omega
 have hLn:L'.b < m2.next:=by
  grind
 have hLw:Lw.b ≠ L'.b:=by
  have h1:=hx.2.1;have h2:=hx.2.2.1;rcases k5 with ⟨a,b,_⟩ | ⟨a,_⟩
  ·rw [a];have:=hne hL b;show Lw.b ≠ L.b;have h1:bl + 1 <= Lw.b:=h1;omega
  ·have h2:Lw.b < m.next:=h2;omega
 refine ⟨m2,L',k1,⟨fun _=>⟨hLB,hLn,k3,ty',by rw [Xn7]; exact k2⟩,fun y hy=>?_⟩,?_,hn⟩
 ·rcases List.mem_append.mp hy with e | e
  ·obtain ⟨q1,q2⟩:=h.ls y e;have hyL:y.2.b ≠ L'.b:=by
    rcases k5 with ⟨a,_⟩ | ⟨a,_⟩
    ·rw [a]; exact q2
    ·have:=q1.2.2.1; omega
   exact ⟨q1.keep hn (k4 _ q1.2.2.1 hyL),hyL⟩
  ·rw [List.mem_singleton.mp e];have h1:LnAt B m (x,Lw):=⟨hx.1,by have:=hx.2.1; omega,hx.2.2⟩
   exact ⟨h1.keep hn (k4 _ h1.2.2.1 hLw),hLw⟩
 ·exact {
   next:=hn
   low:=by rcases k5 with ⟨_,_,_,c⟩ | ⟨_,_,c⟩ <;> omega
   low2:=fun y a b=>by
    rcases k5 with ⟨p,q,_,c⟩ | ⟨_,_,c⟩
    ·have:=hne (fun q=>(h.out q).1) q;omega
    ·omega
   get:=fun b hb=>k4 b (by omega) (by omega)
   lo:=fun b hb=>by
    by_cases e:b=L'.b
    ·rcases k5 with ⟨p,q,_,c⟩ | ⟨p,_⟩
     ·exact .inl (by omega)
     ·omega
    ·exact .inr (k4 b hb e) }
theorem OutAt.push {m:Mem} {l:List (Ln × Lc)} (h:OutAt B m L l) (hn:m.next <= m'.next) (hg:∀ b,b < m.next->m'.get b=m.get b):OutAt B m' L l where
 out:=fun q=>by
  obtain ⟨a,b,c,ty,d⟩:=h.out q;exact ⟨a,by omega,c,ty,by grind⟩
 ls:=fun x hx=>by
  obtain ⟨a,b⟩:=h.ls x hx;exact ⟨a.keep hn (hg _ a.2.2.1),b⟩
theorem OutAt.lt {B:Nat} {m:Mem} {L:Lc} {l:List (Ln × Lc)} (h:OutAt B m L l):(∀ y ∈ l,y.2.b < m.next)/\(l ≠ []->L.b < m.next):=⟨fun y hy=>(h.ls y hy).1.2.2.1,fun q=>(h.out q).2.1⟩
theorem Xe9 (d:Nat) (B p3:Nat) (rows:List Str) (hr:∀ r ∈ rows,r.length <= 4194304) (hN:rows.length <= 4194304) (v:Value):∀ (n i f:Nat) (l:List (Ln × Lc)) (L:Lc) (m:Mem),i + n=rows.length->n < f->l.length <= i->B <= m.next->SL m v rows->(∀ b,b < B->True)->OutAt B m L l ->
  (∃ bs,bs < B/\∀ m',B <= m'.next->m'.get bs=m.get bs->SL m' v rows)->p3 < B->(∃ ty x y,m.get p3=some (.cells [x,y] 0 0 false ty)) ->
  ∃ m' L' l',Q1b ⟨TA (d + 3),18446744073709551616⟩ f (I i) (I rows.length) v (slV L l.length 2) (pt p3 0 0) m=Qc0 ⟨TA (d + 3),18446744073709551616⟩ (slV L' l'.length 2) (pt p3 0 0) m'/\OutAt B m' L' l'/\l'.map (·.1)=l.map (·.1) ++ X11 (rows.drop i) i/\Fb B m m'
 | 0,i,f + 1,l,L,m,e,hf,hli,hB,hS,_,hO,_,_,_=>by
  have:i=rows.length:=by omega
  subst this;refine ⟨m,L,l,?_,hO,?_,.refl _ _⟩
  ·unfold Q1b;delta B qh;simp only [Q1d,X3,Int.lt_irrefl,decide_false];delta Qho Q;rw [X6]
  ·rw [List.drop_length];unfold X11;rw [List.append_nil]
 | n + 1,i,f + 1,l,L,m,e,hf,hli,hB,hS,hT,hO,hbs,hp3,hg3=>by
  have hi:i < rows.length:=by omega
  have hlt:decide (((i:Nat):Int) < ((rows.length:Nat):Int))=true:=decide_eq_true (by omega);obtain ⟨p,l1,l2⟩:=hS.at (List.getElem?_eq_getElem hi);have hd:rows.drop i=rows[i] :: rows.drop (i + 1):=List.drop_eq_getElem_cons hi;have hrow:rows[i].length <= 4194304:=hr _ (List.getElem_mem hi);have htl:=X5h rows[i];have ct:TA (d + 3) Q4r [sv rows[i],.string ⟨#[32]⟩] m=some (sv (trimS rows[i]),m):=c_TrimLeft _ hrow (d + 1) m;have e1:bin .add true true .int (I i) (.int .i64 1)=some (I (i + 1:Nat)):=by
   grind [Q35,wrap64]
  have e0:bin .eql true true .str (sv (trimS rows[i])) (.string ⟨#[]⟩)=some (.bool (decide (trimS rows[i]=[]))):=Qw _ _ _ [];rw [hd];unfold X11;have next:∀ (l':List (Ln × Lc)) (L':Lc) (m':Mem),Fb B m m'->l'.length <= i + 1->OutAt B m' L' l' ->
    ∃ m2 L2 l2,Qc1 ⟨TA (d + 3),18446744073709551616⟩ (Q1b ⟨TA (d + 3),18446744073709551616⟩ f) (I i) (I rows.length) v (slV L' l'.length 2) (pt p3 0 0) m'=Qc0 ⟨TA (d + 3),18446744073709551616⟩ (slV L2 l2.length 2) (pt p3 0 0) m2/\OutAt B m2 L2 l2/\l2.map (·.1)=l'.map (·.1) ++ X11 (rows.drop (i + 1)) (i + 1)/\Fb B m m2:=fun l' L' m' hF hl' hO'=>by
   obtain ⟨bs,hb1,hb2⟩:=hbs;have hn:=hF.next;obtain ⟨m2,L2,l2,q1,q2,q3,q4⟩:=Xe9 d B p3 rows hr hN v n (i + 1) f l' L' m' (by omega) (by omega) hl' (by omega) (hb2 m' (by omega) (hF.get bs hb1)) hT hO' ⟨bs,hb1,fun m3 a b=>hb2 m3 a (by rw [b,hF.get bs hb1])⟩ hp3 (by
    obtain ⟨ty,x,y,hg⟩:=hg3;exact ⟨ty,x,y,by rw [hF.get p3 hp3]; exact hg⟩)
   refine ⟨m2,L2,l2,?_,q2,q3,hF.trans q4⟩;delta Qc1 B X A;simp only [e1,X3];exact q1
  have skip:rowP rows[i]=none->∃ m2 L2 l2,Qc1 ⟨TA (d + 3),18446744073709551616⟩ (Q1b ⟨TA (d + 3),18446744073709551616⟩ f) (I i) (I rows.length) v (slV L l.length 2) (pt p3 0 0) m=Qc0 ⟨TA (d + 3),18446744073709551616⟩ (slV L2 l2.length 2) (pt p3 0 0) m2/\OutAt B m2 L2 l2/\l2.map (·.1)=l.map (·.1) ++ (match rowP rows[i] with | some x=>⟨x.1,i + 1,x.2⟩ :: X11 (rows.drop (i + 1)) (i + 1) | none=>X11 (rows.drop (i + 1)) (i + 1))/\Fb B m m2:=fun hn=>by
   rw [hn];exact next l L m (.refl _ _) (by omega) hO
  unfold Q1b;delta B qh;simp only [Q1d,X3,hlt];delta Qho Q;rw [X7];delta Qku qx;simp only [l1,l2,X3];delta Qkt C E;simp only [ct,X4];delta Qjn D B qg A qd qf E;simp only [e0,X3];by_cases ht:trimS rows[i]=[]
  ·rw [decide_eq_true ht,X7];delta Qdw Q;rw [X7];exact skip (by simp [rowP,if_pos,ht])
  ·rw [decide_eq_false ht,X6];have hp:0 < (trimS rows[i]).length:=List.length_pos_iff.mpr ht;have ei:Xe (sv (trimS rows[i])) (.int .i64 0)=some (.int .u8 (((trimS rows[i])[0]).toNat:Int)):=X56 _ .i64 0 hp;have e33:bin .eql true true .int (.int .u8 (((trimS rows[i])[0]).toNat:Int)) (.int .u8 33)=some (.bool (decide ((trimS rows[i]).head?=some 33))):=by
    rw [Q79];congr 2;rw [decide_eq_decide];have hh:(trimS rows[i]).head?=some (trimS rows[i])[0]:=by rw [List.head?_eq_getElem?,List.getElem?_eq_getElem hp]
    rw [hh];constructor
    ·intro h;congr 1;apply UInt8.toNat_inj.mp;show _=33;omega
    ·intro h;rw [Option.some.inj h];rfl
   simp only [ei,e33,X3];delta Qdw Q;by_cases hh:(trimS rows[i]).head?=some 33
   ·rw [decide_eq_true hh,X7];exact skip (by simp [rowP,if_pos,hh])
   ·rw [decide_eq_false hh,X6];have hrp:rowP rows[i]=some (rows[i].length - (trimS rows[i]).length,X32 rows[i].length (rows[i].length + 1) (trimS rows[i])):=by
     unfold rowP
     try dsimp only
     rw [if_neg (by grind)]
    delta Qjm B N T S;have e2:bin .sub false true .int (.int .i64 (rows[i].length:Int)) (.int .i64 ((trimS rows[i]).length:Int))=some (I (rows[i].length - (trimS rows[i]).length:Nat)):=by
     rw [Qhs];have:(rows[i].length:Int) - ((trimS rows[i]).length:Int)=((rows[i].length - (trimS rows[i]).length:Nat):Int):=by omega
     rw [this,wrap64 _ (by omega)]
    have e3:∀ z:Nat,Xg Q8x [(0,1),(1,1)] [(0,I z)]=some (.agg ⟨[I z,.slice none 0 0]⟩):=fun z=>Eq.trans rfl rfl;generalize hz:rows[i].length - (trimS rows[i]).length=z at e2 hrp;obtain ⟨m1,n1,n2,n3,n4⟩:=X2c [] m (some (2 * Q45 + 1)) Q8x (v:=.agg ⟨[I z,.slice none 0 0]⟩) (n:=2) rfl rfl rfl;have n1:Xd 2 (pt m.next 0 0) (.agg ⟨[I z,.slice none 0 0]⟩) (m.push (.cells Q8x 0 0 false (some (2 * Q45 + 1))))=some m1:=n1;have hn1:m1.next=m.next + 1:=n3;obtain ⟨m2,Lw,q1,q2,q3,q4⟩:=Xeu d (Q1b ⟨TA (d + 3),18446744073709551616⟩ f) rows[i] hrow i m.next z (by omega) (slV L l.length 2) (I i) (I rows.length) v (pt p3 0 0) (rows[i].length + 1) 18446744073709551616 (trimS rows[i]) [] ⟨0,0,0⟩ m1 (by omega) (by omega) htl (by simp; omega) ⟨_,n4⟩ (by omega) (fun q=>absurd rfl q);rw [List.nil_append] at q2 q3;have hwne:X32 rows[i].length (rows[i].length + 1) (trimS rows[i]) ≠ []:=Xr7 ht;generalize hws:X32 rows[i].length (rows[i].length + 1) (trimS rows[i])=ws at q2 q3 hwne hrp;obtain ⟨tyq,q2⟩:=q2;have F1:Fb m.next m m1:=n2.toFb (Nat.le_refl _);have F2:Fb m.next m m2:=F1.trans q4;have hn2:=F2.next;have hnx:m1.next <= m2.next:=q4.next;have ldl:X8 true 2 (pt m.next 0 0) m2=some (.agg ⟨[I z,slV Lw ws.length 3]⟩):=Xv q2 (by simp) rfl;have hwv:(slV Lw ws.length 3).cells=#[slV Lw ws.length 3]:=by
     unfold slV;split <;> rfl
    have e4:X5 Q45 Q8x 2 1 [(0,.agg ⟨[I z,slV Lw ws.length 3]⟩)] m2=some (.slice (some ⟨m2.next,0,some 2⟩) 1 1,m2.push (.cells [I z,slV Lw ws.length 3] 0 0 false (some (2 * Q45)))):=by
     rfl
    generalize hm3:m2.push (.cells [I z,slV Lw ws.length 3] 0 0 false (some (2 * Q45)))=m3 at e4;have g3n:m3.next=m2.next + 1:=by rw [<- hm3]; rfl
    have g3:∀ b,b < m2.next->m3.get b=m2.get b:=fun b hb=>by rw [<- hm3,Mem.get_push,if_neg (by omega)]
    have g3b:m3.get m2.next=some (.cells [I z,slV Lw ws.length 3] 0 0 false (some (2 * Q45))):=by rw [<- hm3,Mem.get_push,if_pos rfl]
    have F3:Fb B m m3:=by
     rw [<- hm3];exact Fb.trans { next:=F2.next,low:=F2.low,low2:=fun x a b=>F2.low2 x a (by omega),get:=fun b hb=>F2.get b (by omega),lo:=F2.lo } (Fb.push _ (by omega))
    obtain ⟨hl1,hl2⟩:=hO.lt;have hO3:OutAt B m3 L l:=hO.push (by omega) (fun b hb=>by rw [g3 b (by omega),F2.get b hb]);obtain ⟨w1,w2,w3,tyw,w4⟩:=q3 hwne;have hLn3:LnAt (m.next + 1) m3 (⟨z,i + 1,ws⟩,Lw):=⟨hwne,w1,by grind,w3,tyw,by rw [g3 _ w2]; exact w4⟩
    obtain ⟨m4,L4,a1,a2,a3,a4⟩:=Xw8 (bl:=m.next) (x:=⟨z,i + 1,ws⟩) (Lw:=Lw) hO3 (by omega) hB hLn3 hl1 hl2 g3b (by omega);obtain ⟨m5,L5,l5,r1,r2,r3,r4⟩:=next (l ++ [(⟨z,i + 1,ws⟩,Lw)]) L4 m4 (F3.trans a3) (by rw [List.length_append]; simp; omega) a2
    refine ⟨m5,L5,l5,?_,r2,?_,r4⟩
    ·simp only [X36,X3,e2,e3,Xp,n1,Xo];unfold Qjl;refine Eq.trans q1 ?_;delta Qgu qc qp;simp only [ldl,X3,e4,X4,a1];rw [List.length_append] at r1;exact r1
    ·rw [r3,hrp,List.map_append,List.append_assoc];rfl
def linesT (s:Str):List Ln:=X11 (split 10 s) 0
def chk:List UInt8->Nat->Nat->Nat × Nat × Nat
 | [],_,_=>(0,0,0)
 | c :: r,l,k=>if 4096 < l then (l,k,3) else if c.toNat=10 then chk r (l + 1) 1 else if c.toNat < 32\/126 < c.toNat then (l,k,70) else chk r l (k + 1)
def chkV (x:Nat × Nat × Nat):Value:=.tuple ⟨[.agg #[.int .i64 x.1,.int .i64 x.2.1],.int .i64 x.2.2]⟩
def At2 (m:Mem) (b a c:Nat):Prop:=∃ ty,m.get b=some (.cells [I a,I c] 0 0 false ty)
theorem At2.l0 {m:Mem} {c:Nat} (h:At2 m b a c):X8 false 1 (pt b 0 0) m=some (I a):=by obtain ⟨ty,h⟩:=h; exact X12 h rfl
theorem At2.l1 {m:Mem} {c:Nat} (h:At2 m b a c):X8 false 1 (pt b 1 0) m=some (I c):=by obtain ⟨ty,h⟩:=h; exact X12 h rfl
theorem At2.l2 {m:Mem} {c:Nat} (h:At2 m b a c):X8 true 2 (pt b 0 0) m=some (posV a c):=by obtain ⟨ty,h⟩:=h; exact Xv h (by simp) rfl
theorem At2.put {m:Mem} {b a c B:Nat} (h:At2 m b a c) (hB:B <= b) (a' c':Nat):∃ m',Xd 2 (pt b 0 0) (posV a' c') m=some m'/\At2 m' b a' c'/\Fb B m m'/\∀ b',b' ≠ b->m'.get b'=m.get b':=by
 obtain ⟨ty,h⟩:=h;obtain ⟨m',k1,k2⟩:=X1u (o:=0) (n:=2) (v:=posV a' c') (c':=[I a',I c']) h rfl (Nat.zero_le _) (by simp) rfl rfl;exact ⟨m',k1,⟨ty,by rw [k2.get,Mem.get_put,if_pos rfl]⟩,((Fb.refl B m).put _ hB).meq k2,fun b' hb=>by rw [k2.get,Mem.get_put,if_neg (Ne.symm hb)]⟩
theorem At2.put1 {m:Mem} {c:Nat} (h:At2 m b a c) (hB:B <= b) (c':Nat):∃ m',Xd 1 (pt b 1 0) (I c') m=some m'/\At2 m' b a c'/\Fb B m m'/\∀ b',b' ≠ b->m'.get b'=m.get b':=by
 obtain ⟨ty,h⟩:=h;obtain ⟨m',k1,k2⟩:=X1u (o:=1) (n:=1) (v:=I c') (c':=[I a,I c']) h rfl (Nat.zero_le _) (by simp) rfl rfl;exact ⟨m',k1,⟨ty,by rw [k2.get,Mem.get_put,if_pos rfl]⟩,((Fb.refl B m).put _ hB).meq k2,fun b' hb=>by rw [k2.get,Mem.get_put,if_neg (Ne.symm hb)]⟩
theorem At2.ne {m m':Mem} {b a c:Nat} (h:At2 m b a c) (e:m'.get b=m.get b):At2 m' b a c:=by obtain ⟨ty,h⟩:=h; exact ⟨ty,by grind⟩
theorem obC (a y:Value) (m:Mem):(ob (ob (some y) fun v=>ob (some [a]) fun l=>some (v :: l)) fun l=>some (X1i l,m))=some (.tuple ⟨[y,a]⟩,m):=Eq.trans rfl rfl
theorem Xaz (G:Gt) (s:Str) (b c B:Nat) (hbc:b ≠ c) (hb:B <= b) (hc:B <= c) (hs:s.length <= 65536):∀ (r pre:Str) (f l k:Nat) (m:Mem) (x y:Nat),s=pre ++ r->r.length < f->l <= pre.length + 1->k <= pre.length + 1->At2 m b l k->At2 m c x y ->
  ∃ m',Q24 G f (I pre.length) (I s.length) (pt b 0 0) (pt c 0 0) (sv s) m=some (chkV (chk r l k),m')/\Fb B m m'
 | [],pre,f + 1,l,k,m,x,y,hsp,hf,hl,hk,h1,h2=>by
  have hlen:pre.length=s.length:=by grind
  obtain ⟨m',k1,k2,k3,_⟩:=h2.put hc 0 0;refine ⟨m',?_,k3⟩;unfold Q24;delta B qh;have e1:bin .lss false true .int (I pre.length) (I s.length)=some (.bool false):=by grind [Q1d,decide_eq_false]
  have eb:Xg Q3 [(0,1),(1,1)] []=some (posV 0 0):=Eq.trans rfl rfl;have k1:Xd 2 (pt c 0 0) (posV 0 0) m=some m':=k1;simp only [e1,X3];delta Qhq Qky Q B qq A;rw [X6];simp only [eb,X3,k1,Xo,k2.l2];exact obC _ _ _
 | a :: r,pre,f + 1,l,k,m,x,y,hsp,hf,hl,hk,h1,h2=>by
  have hlen:pre.length + (r.length + 1)=s.length:=by grind
  have hf:r.length < f:=by grind
  have hix:s[pre.length]'(by omega)=a:=by
   grind
  have e1:bin .lss false true .int (I pre.length) (I s.length)=some (.bool true):=by rw [Q1d,decide_eq_true (by omega)]
  have e2:bin .gtr true true .int (I l) (.int .i64 4096)=some (.bool (decide (4096 < l))):=by rw [Qhr]; congr 2; rw [decide_eq_decide]; omega
  have e3:Xe (sv s) (I pre.length)=some (.int .u8 (a.toNat:Int)):=by rw [X56 s .i64 pre.length (by omega),hix]
  have e4:bin .eql true true .int (.int .u8 (a.toNat:Int)) (.int .u8 10)=some (.bool (decide (a.toNat=10))):=by rw [Q79]; congr 2; rw [decide_eq_decide]; omega
  have e5:bin .lss true true .int (.int .u8 (a.toNat:Int)) (.int .u8 32)=some (.bool (decide (a.toNat < 32))):=by rw [Q1d]; congr 2; rw [decide_eq_decide]; omega
  have e6:bin .gtr true true .int (.int .u8 (a.toNat:Int)) (.int .u8 126)=some (.bool (decide (126 < a.toNat))):=by rw [Qhr]; congr 2; rw [decide_eq_decide]; omega
  have add1:∀ n:Nat,n <= 70000->bin .add true true .int (I n) (.int .i64 1)=some (I (n + 1:Nat)):=fun n hn=>by
   rw [Q35];have:((n:Nat):Int) + 1=((n + 1:Nat):Int):=by omega
   rw [this,wrap64 _ (by omega)]
  have hpl:(pre ++ [a]).length=pre.length + 1:=by simp
  unfold Q24;delta B qh;simp only [e1,X3];delta Qhq Ql0 Qkz H Q B A;unfold chk;rw [X7];simp only [X9,X3,Nat.zero_add,h1.l0,e2];delta Qjp Q qc B qq qg A;by_cases g1:4096 < l
  ·rw [decide_eq_true g1,X7,if_pos g1];obtain ⟨m',k1,k2,k3,_⟩:=h2.put hc l k;refine ⟨m',?_,k3⟩;simp only [h1.l2,X3,k1,Xo,k2.l2];exact obC _ _ _
  ·rw [decide_eq_false g1,X6,if_neg g1];simp only [e3,X3,e4];delta Qjo H Q D B T X A qf;by_cases g2:a.toNat=10
   ·rw [decide_eq_true g2,X7,if_pos g2];obtain ⟨m',k1,k2,k3,k4⟩:=h1.put hb (l + 1) 1;have eb:Xg Q3 [(0,1),(1,1)] [(0,I (l + 1:Nat)),(1,.int .i64 1)]=some (posV (l + 1) 1):=Eq.trans rfl rfl;obtain ⟨m2,q1,q2⟩:=Xaz G s b c B hbc hb hc hs r (pre ++ [a]) f (l + 1) 1 m' x y (by rw [hsp]; simp) hf (by omega) (by omega) k2 (h2.ne (k4 c (Ne.symm hbc)));refine ⟨m2,?_,k3.trans q2⟩;delta Qfw B X A;simp only [X9,X3,Nat.zero_add,h1.l0,add1 l (by omega),eb,k1,Xo,add1 pre.length (by omega)];rw [hpl] at q1;exact q1
   ·rw [decide_eq_false g2,X6,if_neg g2];have fin:∀ m,At2 m b l k->At2 m c x y->∃ m',Qav G (Q24 G f) (.bool true) (pt b 0 0) (pt c 0 0) (I pre.length) (I s.length) (sv s) m=some (chkV (l,k,70),m')/\Fb B m m':=fun m h1 h2=>by
     obtain ⟨m',k1,k2,k3,_⟩:=h2.put hc l k;refine ⟨m',?_,k3⟩;delta Qav H Q qc B qq X qk A;rw [X7];simp only [h1.l2,X3,k1,Xo,k2.l2];exact obC _ _ _
    simp only [e3,X3,e5];by_cases g3:a.toNat < 32
    ·rw [decide_eq_true g3,X7,if_pos (.inl g3)];exact fin m h1 h2
    ·rw [decide_eq_false g3,X6];simp only [e3,X3,e6];by_cases g4:126 < a.toNat
     ·rw [decide_eq_true g4,if_pos (.inr g4)];exact fin m h1 h2
     ·rw [decide_eq_false g4,if_neg (fun h=>h.elim g3 g4)];obtain ⟨m',k1,k2,k3,k4⟩:=h1.put1 hb (k + 1);obtain ⟨m2,q1,q2⟩:=Xaz G s b c B hbc hb hc hs r (pre ++ [a]) f l (k + 1) m' x y (by rw [hsp]; simp) hf (by omega) (by omega) k2 (h2.ne (k4 c (Ne.symm hbc)));refine ⟨m2,?_,k3.trans q2⟩;delta Qav Qfw H Q qc B qq X qk A;rw [X6];simp only [X9,X3,Nat.zero_add,h1.l1,add1 k (by omega),k1,Xo,add1 pre.length (by omega)];rw [hpl] at q1;exact q1
def Xi (s:Str):Nat × Nat × Nat:=if 65536 < s.length then (0,0,3) else chk s 1 1
theorem c_check (s:Str) (d:Nat) (m:Mem):TA (d + 1) Qg2 [sv s] m=some (chkV (Xi s),m):=by
 rw [Xik];generalize hm0:withLow m m.next=m0;have hn0:m0.next=m.next:=by rw [<- hm0]; rfl
 generalize hm1:m0.push (.cells Q3 0 0 false (some (2 * Q8 + 1)))=m1;have hn1:m1.next=m0.next + 1:=by rw [<- hm1]; rfl
 have F1:Fb m.next m0 m1:=by rw [<- hm1]; exact Fb.push _ (by omega)
 have a1:At2 m1 m0.next 0 0:=⟨_,by rw [<- hm1,Mem.get_push,if_pos rfl]; rfl⟩
 have key:∃ m',Qcz ⟨TA d,18446744073709551616⟩ (sv s) m0=some (chkV (Xi s),m')/\Fb m.next m0 m':=by
  delta Qcz S;rw [Xp]
  try rw [X4]
  rw [hm1];delta Ql4 D B N qq A;unfold Xi;have e1:bin .gtr true true .int (.int .i64 (s.length:Int)) (.int .i64 65536)=some (.bool (decide (65536 < s.length))):=by rw [Qhr]; congr 2; rw [decide_eq_decide]; omega
  simp only [X36,X3,e1];by_cases g:65536 < s.length
  ·rw [decide_eq_true g,X7,if_pos g];obtain ⟨m',k1,k2,k3,_⟩:=a1.put (B:=m.next) (by omega) 0 0;refine ⟨m',?_,F1.trans k3⟩;have eb:Xg Q3 [(0,1),(1,1)] []=some (posV 0 0):=Eq.trans rfl rfl;have k1:Xd 2 (pt m0.next 0 0) (posV 0 0) m1=some m':=k1;simp only [eb,X3,k1,Xo,k2.l2];exact obC _ _ _
  ·rw [decide_eq_false g,X6,if_neg g];delta Ql3 B T S A;have eb:Xg Q3 [(0,1),(1,1)] [(0,.int .i64 1),(1,.int .i64 1)]=some (posV 1 1):=Eq.trans rfl rfl;simp only [eb,X3,Xp,X4];generalize hm2:m1.push (.cells Q3 0 0 false (some (2 * Q8 + 1)))=m2;have hn2:m2.next=m1.next + 1:=by rw [<- hm2]; rfl
   have F2:Fb m.next m1 m2:=by rw [<- hm2]; exact Fb.push _ (by omega)
   have a2:At2 m2 m1.next 0 0:=⟨_,by rw [<- hm2,Mem.get_push,if_pos rfl]; rfl⟩
   have a12:At2 m2 m0.next 0 0:=a1.ne (by rw [<- hm2,Mem.get_push,if_neg (by omega)]);obtain ⟨m3,k1,k2,k3,k4⟩:=a2.put (B:=m.next) (by omega) 1 1;obtain ⟨m4,q1,q2⟩:=Xaz ⟨TA d,18446744073709551616⟩ s m1.next m0.next m.next (by omega) (by omega) (by omega) (by omega) s [] 18446744073709551616 1 1 m3 0 0 rfl (by omega) (Nat.le_refl _) (Nat.le_refl _) k2 (a12.ne (k4 _ (by omega)));refine ⟨m4,?_,F1.trans (F2.trans (k3.trans q2))⟩;have k1:Xd 2 (pt m1.next 0 0) (posV 1 1) m2=some m3:=k1;simp only [k1,Xo];delta Ql2 Ql1 N A;simp only [X36,X3];exact q1
 obtain ⟨m',k1,k2⟩:=key;rw [<- hm0] at k1 k2;rw [hm0] at k1;exact X16 (m1:=m') k1 k2 rfl
end Go.Ab.Sh
namespace Go.Ab
open Go
theorem Xky {m m1:Mem} {v:Value} {x:Option Rs} (hx:x=some (v,m1)) (hF:Fr [] (withLow m m.next) m1) (hv:refs m.next 8 v=false):∃ m2,outOf m x=some (v,m2)/\Fr [] m m2/\m2.next=m1.next/\∀ b,m2.get b=m1.get b:=by
 subst hx;have hc:(Nat.ble m.next m1.low && refs m.next 8 v)=false:=by grind
 have e:∀ v' m2,gc m v m1=(v',m2)->outOf m (some (v,m1))=some (v',m2):=fun v' m2 h=>by grind [outOf]
 refine ⟨withLow m1 (min m.low m1.low),e _ _ (by simp [Xh2,gcO,hc]),{
  next:=hF.next
  low:=Nat.min_le_left _ _
  low2:=fun y a b c=>by
   have:=hF.low2 y b b (by simp);show y <= min m.low m1.low;omega
  get:=hF.get
  lo:=fun b hb=>by
   rcases hF.lo b hb with q | q
   ·exact .inl (Nat.le_trans (Nat.min_le_right _ _) q)
   ·exact .inr q },rfl,fun _=>rfl⟩
end Go.Ab
namespace Go.Ab.Sh
open Go Go.Ab Go.Lib
theorem obL (a b:Value) (m:Mem) (y:Value):(ob (ob (ob (some y) fun v=>ob (some [a]) fun l=>some (v :: l)) fun l=>some (b :: l)) fun l=>some (X1i l,m))=some (.tuple ⟨[b,y,a]⟩,m):=Eq.trans rfl rfl
theorem c_Lines_bad (s:Str) (h:(Xi s).2.2 ≠ 0) (d:Nat) (m:Mem):TA (d + 4) Qcs [sv s] m=some (.tuple ⟨[.slice none 0 0,posV (Xi s).1 (Xi s).2.1,I (Xi s).2.2]⟩,m):=by
 rw [Xd4];generalize hm0:withLow m m.next=m0;have hn0:m0.next=m.next:=by rw [<- hm0]; rfl
 have F1:Fb m.next m0 (m0.push (.cells Q3 0 0 false (some (2 * Q8 + 1)))):=Fb.push _ (by omega);generalize hm1:m0.push (.cells Q3 0 0 false (some (2 * Q8 + 1)))=m1 at F1;have g1:m1.get m0.next=some (.cells Q3 0 0 false (some (2 * Q8 + 1))):=by rw [<- hm1,Mem.get_push,if_pos rfl]
 have hn1:m1.next=m0.next + 1:=by rw [<- hm1]; rfl
 obtain ⟨m2,n1,n2,n3,n4⟩:=X2c [] m1 (some (2 * Q8 + 1)) Q3 (v:=posV (Xi s).1 (Xi s).2.1) (n:=2) rfl rfl rfl;have n1:Xd 2 (pt m1.next 0 0) (.agg #[.int .i64 (Xi s).1,.int .i64 (Xi s).2.1]) (m1.push (.cells Q3 0 0 false (some (2 * Q8 + 1))))=some m2:=n1;have l2:X8 true 2 (pt m1.next 0 0) m2=some (posV (Xi s).1 (Xi s).2.1):=Xv n4 (by show 2 <= 2; omega) rfl;have g2:m2.get m0.next=some (.cells Q3 0 0 false (some (2 * Q8 + 1))):=by simp_all [n2.get,g1]
 obtain ⟨m3,k1,k2⟩:=X1u (o:=0) (n:=2) (v:=posV (Xi s).1 (Xi s).2.1) (c':=[I (Xi s).1,I (Xi s).2.1]) g2 rfl (Nat.zero_le _) (by show 0 + 2 <= 2; omega) rfl rfl;have l3:X8 true 2 (pt m0.next 0 0) m3=some (posV (Xi s).1 (Xi s).2.1):=Xv (by rw [k2.get,Mem.get_put,if_pos rfl]) (by simp) rfl;have F2:Fb m.next m0 m2:=F1.trans (n2.toFb (by omega));have F3:Fb m.next m0 m3:=F2.trans (((Fb.refl m.next m2).put _ (by omega)).meq k2);rw [<- hm0] at F3;refine X16 (m1:=m3) ?_ F3 rfl
 try rw [hm0]
 delta Qat Qhp C D qc T qq S U A;have hc:=c_check s (d + 2) m1;have hc:TA (d + 3) Qg2 [sv s] m1=some (.tuple ⟨[.agg #[.int .i64 (Xi s).1,.int .i64 (Xi s).2.1],.int .i64 (Xi s).2.2]⟩,m1):=hc;have e0:bin .neq true true .int (.int .i64 (Xi s).2.2) (.int .i64 0)=some (.bool true):=by rw [Q9y,decide_eq_true (by omega)]
 rw [Xp,hm1];simp only [hc,X4,ex0,ex1,X3,Xp,n1,Xo,e0,X7,l2,k1,l3];exact obL _ _ _ _
theorem c_Lines (s:Str) (h:(Xi s).2.2=0) (d:Nat) (m:Mem):∃ m' L l,TA (d + 4) Qcs [sv s] m=some (.tuple ⟨[slV L l.length 2,posV 0 0,I 0]⟩,m')/\OutAt m.next m' L l/\l.map (·.1)=linesT s/\Fr [] m m':=by
 have hs:s.length <= 65536:=by
  rcases Nat.lt_or_ge 65536 s.length with q | q
  ·unfold Xi at h;rw [if_pos q] at h;cases h
  ·exact q
 rw [Xd4];generalize hm0:withLow m m.next=m0;have hn0:m0.next=m.next:=by rw [<- hm0]; rfl
 have F1:Fb m.next m0 (m0.push (.cells Q3 0 0 false (some (2 * Q8 + 1)))):=Fb.push _ (by omega);generalize hm1:m0.push (.cells Q3 0 0 false (some (2 * Q8 + 1)))=m1 at F1;have g1:m1.get m0.next=some (.cells Q3 0 0 false (some (2 * Q8 + 1))):=by rw [<- hm1,Mem.get_push,if_pos rfl]
 have hn1:m1.next=m0.next + 1:=by rw [<- hm1]; rfl
 obtain ⟨m2,n1,n2,n3,n4⟩:=X2c [] m1 (some (2 * Q8 + 1)) Q3 (v:=posV (Xi s).1 (Xi s).2.1) (n:=2) rfl rfl rfl;have n1:Xd 2 (pt m1.next 0 0) (.agg #[.int .i64 (Xi s).1,.int .i64 (Xi s).2.1]) (m1.push (.cells Q3 0 0 false (some (2 * Q8 + 1))))=some m2:=n1;have hn2:m2.next=m1.next + 1:=n3;have g2:m2.get m0.next=some (.cells Q3 0 0 false (some (2 * Q8 + 1))):=by simp_all [n2.get,g1]
 obtain ⟨v,m3,p1,p2,p3,p4⟩:=c_Split s (by omega) 10 d m2;have p1:TA (d + 3) Q7l [sv s,.string ⟨#[10]⟩] m2=some (v,m3):=p1;have hn3:=p2.next;have g3:m3.get m0.next=some (.cells Q3 0 0 false (some (2 * Q8 + 1))):=by rw [p2.get _ (by omega) (by simp)]; exact g2
 obtain ⟨bs,q1,q2,_⟩:=p3.block;have hsl:(split 10 s).length <= s.length + 1:=by
  rw [X59 10 s.length s (Nat.le_refl _)];have:=List.count_le_length (a:=(10:UInt8)) (l:=s);omega
 obtain ⟨m4,L,l,r1,r2,r3,r4⟩:=Xe9 d m3.next m0.next (split 10 s) (fun r hr=>by have:=X51 10 s r hr; omega) (by omega) v (split 10 s).length 0 18446744073709551616 [] ⟨0,0,0⟩ m3 (by omega) (by omega) (Nat.zero_le _) (Nat.le_refl _) p3 (fun _ _=>trivial) ⟨fun q=>absurd rfl q,fun x hx=>by cases hx⟩ ⟨bs,q1,fun m' a b=>q2 m' a b⟩ (by omega) ⟨_,_,_,g3⟩;rw [List.map_nil,List.nil_append,List.drop_zero] at r3;have g4:m4.get m0.next=some (.cells Q3 0 0 false (some (2 * Q8 + 1))):=by rw [r4.get _ (by omega)]; exact g3
 obtain ⟨m5,k1,k2⟩:=X1u (o:=0) (n:=2) (v:=posV 0 0) (c':=[I 0,I 0]) g4 rfl (Nat.zero_le _) (by show 0 + 2 <= 2; omega) rfl rfl;have l5:X8 true 2 (pt m0.next 0 0) m5=some (posV 0 0):=Xv (by rw [k2.get,Mem.get_put,if_pos rfl]) (by simp) rfl;have F2:Fb m.next m0 m2:=F1.trans (n2.toFb (by omega));have F3:Fb m.next m0 m3:=F2.trans (p2.toFb (by omega));have F4:Fb m.next m0 m4:=F3.trans { next:=r4.next,low:=r4.low,low2:=fun x a b=>r4.low2 x a (by omega),get:=fun b hb=>r4.get b (by omega),lo:=r4.lo }
 have F5:Fb m.next m0 m5:=F4.trans (((Fb.refl m.next m4).put _ (by omega)).meq k2);have hn5:m5.next=m4.next:=by rw [k2.next,Mem.next_put]
 have hO5:OutAt m.next m5 L l:={
  out:=fun q=>by
   obtain ⟨a,b,c,ty,e⟩:=r2.out q;exact ⟨by omega,by omega,c,ty,by rw [k2.get,Mem.get_put,if_neg (by omega)]; exact e⟩
  ls:=fun x hx=>by
   obtain ⟨⟨a1,a2,a3,a4,ty,a5⟩,b⟩:=r2.ls x hx;exact ⟨⟨a1,by omega,by omega,a4,ty,by rw [k2.get,Mem.get_put,if_neg (by omega)]; exact a5⟩,b⟩ }
 have hx:Qat ⟨TA (d + 3),18446744073709551616⟩ (sv s) m0=some (.tuple ⟨[slV L l.length 2,posV 0 0,I 0]⟩,m5):=by
  delta Qat Qhp C D qc T qq S U A;have hc:=c_check s (d + 2) m1;have hc:TA (d + 3) Qg2 [sv s] m1=some (.tuple ⟨[.agg #[.int .i64 (Xi s).1,.int .i64 (Xi s).2.1],.int .i64 (Xi s).2.2]⟩,m1):=hc;have e0:bin .neq true true .int (.int .i64 (Xi s).2.2) (.int .i64 0)=some (.bool false):=by grind [Q9y,decide_eq_false]
  rw [Xp,hm1];simp only [hc,X4,ex0,ex1,X3,Xp,n1,Xo,e0,X6];delta Qkx Qkw C N A E;simp only [p1,X4,p3.len,X3];unfold Qkv;refine Eq.trans r1 ?_;delta Qc0 B qq A;have eb:Xg Q3 [(0,1),(1,1)] []=some (posV 0 0):=Eq.trans rfl rfl;have k1:Xd 2 (pt m0.next 0 0) (posV 0 0) m4=some m5:=k1;simp only [eb,X3,k1,Xo,l5];exact obL _ _ _ _
 rw [<- hm0] at hx F5;by_cases hl:l=[]
 ·subst hl;have hv:refs m.next 8 (.tuple ⟨[slV L ([]:List (Ln × Lc)).length 2,posV 0 0,I 0]⟩)=true:=rfl;have:=X16 hx F5 hv;rw [hm0] at this;exact ⟨m,L,[],this,⟨fun q=>absurd rfl q,fun x hx=>by cases hx⟩,r3,.refl _ _⟩
 ·have hlz:l.length ≠ 0:=fun e=>hl (List.eq_nil_of_length_eq_zero e);have hLb:=(hO5.out hl).1;have hv:refs m.next 8 (.tuple ⟨[slV L l.length 2,posV 0 0,I 0]⟩)=false:=by
   have h1:=Xkx (L:=L) (n:=l.length) (k:=m.next) (sz:=2) hlz hLb;unfold slV at h1 ⊢;rw [if_neg hlz] at h1 ⊢;have h1:Nat.blt L.b m.next=false:=h1;show (Nat.blt L.b m.next && _)=false;rw [h1];rfl
  obtain ⟨m6,o1,o2,o3,o4⟩:=Xky hx (Fb.toFr F5) hv;rw [hm0] at o1;exact ⟨m6,L,l,o1,{
   out:=fun q=>by
    obtain ⟨a,b,c,ty,e⟩:=hO5.out q;exact ⟨a,by omega,c,ty,by grind⟩
   ls:=fun x hx=>by
    obtain ⟨a,b⟩:=hO5.ls x hx;exact ⟨a.keep (by omega) (o4 _),b⟩ },r3,o2⟩
end Go.Ab.Sh
namespace Go.Ab
open Go
variable {X:NX} {cap:Nat} {m:Mem} {φ:Phi}
theorem NR.newK (h:NR cap m φ X) (hX:X [1]=none) (hn:∀ l,X [] ≠ some (.c l)) (vs:List Value) (h1:vs.all one=true) (ty:Option Nat):NR cap (m.push (.cells vs 0 0 false ty)) (φ.set [1] ⟨m.next,0,0⟩) (X.set [1] (some (.c (vs.map .v)))):=by
 have hd:∀ a,X.set [1] (some (.c (vs.map .v))) a ≠ none->a ≠ [1]->X a ≠ none:=fun a ha hne=>by rwa [NX.set_ne _ _ hne] at ha
 have hφ:∀ a,a ≠ [1]->(φ.set [1] ⟨m.next,0,0⟩) a=φ a:=fun a ha=>Phi.set_ne _ _ ha;have hg:∀ b,b < m.next->(m.push (.cells vs 0 0 false ty)).get b=m.get b:=fun b hb=>by rw [Mem.get_push,if_neg (by omega)]
 have hk:∀ (a:Key) (i:Nat) (l:List Cl),X a=some (.c l)->i :: a ≠ [1]:=fun a i l ha e=>by
  grind
 exact {
  inj:=fun a b ha hb e=>by
   by_cases e1:a=[1]
   ·by_cases e2:b=[1]
    ·rw [e1,e2]
    ·rw [e1,Phi.set_eq,hφ b e2] at e;have:=h.hi b (hd b hb e2);have e:m.next=(φ b).b:=e;omega
   ·by_cases e2:b=[1]
    ·rw [e2,Phi.set_eq,hφ a e1] at e;have:=h.hi a (hd a ha e1);have e:(φ a).b=m.next:=e;omega
    ·rw [hφ a e1,hφ b e2] at e;exact h.inj a b (hd a ha e1) (hd b hb e2) e
  hi:=fun a ha=>by
   by_cases e1:a=[1]
   ·rw [e1,Phi.set_eq]; exact Nat.lt_succ_self _
   ·rw [hφ a e1];exact Nat.lt_succ_of_lt (h.hi a (hd a ha e1))
  r2:=fun a ha=>by
   by_cases e1:a=[1]
   ·simp [e1,Phi.set_eq]
   ·simp [hφ,e1,h.r2,hd,ha]
  at':=fun a ob ha=>by
   by_cases e1:a=[1]
   ·subst e1;rw [NX.set_eq] at ha;cases ha;refine ⟨ty,?_⟩;rw [Phi.set_eq,X8q];show (m.push _).get m.next=_;rw [Mem.get_push,if_pos rfl]
   ·rw [NX.set_ne _ _ e1] at ha;have ha':X a ≠ none:=by rw [ha]; simp
    have:=h.at' a ob ha;cases ob with
    | c l2 =>
     obtain ⟨ty3,q3⟩:=this;refine ⟨ty3,?_⟩;rw [hφ a e1,hg _ (h.hi a ha'),X87 (φ:=φ) (fun o n sz _ _=>hφ _ (hk a o _ ha))];exact q3
    | m es cl =>
     show (m.push _).get ((φ.set [1] ⟨m.next,0,0⟩) a).b=_;rw [hφ a e1,hg _ (h.hi a ha')];exact this
  ok:=fun a l2 ha=>by
   by_cases e1:a=[1]
   ·subst e1;rw [NX.set_eq] at ha;cases ha;rw [List.all_eq_true] at h1 ⊢;intro c hc;obtain ⟨y,hy,rfl⟩:=List.mem_map.mp hc;exact h1 y hy
   ·rw [NX.set_ne _ _ e1] at ha;exact h.ok a l2 ha
  ow:=fun a l2 i n' sz' ha hi=>by
   by_cases e1:a=[1]
   ·subst e1;rw [NX.set_eq] at ha;cases ha;rw [List.getElem?_map] at hi;cases hq:vs[i]? with
    | none=>rw [hq] at hi; cases hi
    | some y=>rw [hq] at hi; cases hi
   ·rw [NX.set_ne _ _ e1] at ha;rw [NX.set_ne _ _ (hk a i _ ha)];exact h.ow a l2 i n' sz' ha hi
  par:=fun i j a ha=>by
   have hne:i :: j :: a ≠ [1]:=fun e=>by grind
   obtain ⟨l5,n5,sz5,z1,z2,z3⟩:=h.par i j a (hd _ ha hne);have:j :: a ≠ [1]:=fun e=>by grind
   exact ⟨l5,n5,sz5,by simp_all [NX.set_ne,z1],z2,z3⟩ }
theorem NR.dropK (h:NR cap m φ X) (hX:∀ (l:List Cl) (i n sz:Nat),X [1]=some (.c l)->l[i]? ≠ some (Cl.s n sz)) (hn:∀ l,X [] ≠ some (.c l)):NR cap m φ (X.set [1] none):=by
 have hne:∀ a,X.set [1] none a ≠ none->a ≠ [1]:=fun a ha e=>by simp_all [NX.set_eq,ha]
 have hd:∀ a,X.set [1] none a ≠ none->X a ≠ none:=fun a ha=>by have:=hne a ha; rwa [NX.set_ne _ _ this] at ha
 have hk:∀ (a:Key) (i:Nat) (l:List Cl),X a=some (.c l)->i :: a ≠ [1]:=fun a i l ha e=>by
  grind
 exact {
  inj:=fun a b ha hb e=>h.inj a b (hd a ha) (hd b hb) e
  hi:=fun a ha=>h.hi a (hd a ha)
  r2:=fun a ha=>h.r2 a (hd a ha)
  at':=fun a ob ha=>by
   have:=hne a (by rw [ha]; simp);rw [NX.set_ne _ _ this] at ha;exact h.at' a ob ha
  ok:=fun a l2 ha=>by
   have:=hne a (by rw [ha]; simp);rw [NX.set_ne _ _ this] at ha;exact h.ok a l2 ha
  ow:=fun a l2 i n' sz' ha hi=>by
   have:=hne a (by rw [ha]; simp);rw [NX.set_ne _ _ this] at ha;rw [NX.set_ne _ _ (hk a i _ ha)];exact h.ow a l2 i n' sz' ha hi
  par:=fun i j a ha=>by
   obtain ⟨l5,n5,sz5,z1,z2,z3⟩:=h.par i j a (hd _ ha);have:j :: a ≠ [1]:=fun e=>by
    grind
   exact ⟨l5,n5,sz5,by simp_all [NX.set_ne,z1],z2,z3⟩ }
end Go.Ab
namespace Go.Ab.Sh
open Go Go.Ab Go.Lib
variable {O P bf o δ':Nat} {S:PSt} {X X':NX} {k:Key} {w:Value} {y:Option Rs}
variable {c:Cx} {m0 m:Mem} {φ0 φ:Phi} {s0 s s':PSt} {cap δ:Nat} {ts:List Tmp} {x:Option Rs} {Q:Value->Nat->Phi->PSt->Prop} {v:Value} {cu:Cu}
def X4x (c:Cx) (s:PSt):PSt:=if s.blk=X6t then X6m c s else if s.blk=Xcw then Xcf c s else if s.blk=bAsk then askC c s else if s.blk=Xda then Xdh c s else bgpC c s
inductive BlkOk (s:PSt):Prop where
 | none (h:s.blk=0)
 | iface (h:s.blk=X6t) (n:0 < nOf s.X [0] 3)
 | rule (h:s.blk=Xcw) (n:0 < nOf s.X [0] 4)
 | ask (h:s.blk=bAsk) (n:Xx4 s.X)
 | ospf (h:s.blk=Xda) (n:0 < nOf s.X [0] 10)
 | bgp (h:s.blk=bBgp) (n:0 < nOf s.X [0] 11)
theorem PaD.mono (h:PaD c cap δ m φ s y w S) (hd:δ <= δ'):PaD c cap δ' m φ s y w S:=by
 obtain ⟨v',m1,cap1,φ1,s1,a1,a2,a3,a4,a5,a6⟩:=h;exact ⟨v',m1,cap1,φ1,s1,a1,a2,a3,a4,by omega,a6⟩
theorem Xxa:X6t ≠ 0/\Xcw ≠ 0/\bAsk ≠ 0/\Xda ≠ 0/\bBgp ≠ 0/\Xcw ≠ X6t/\bAsk ≠ X6t/\bAsk ≠ Xcw/\Xda ≠ X6t/\Xda ≠ Xcw/\Xda ≠ bAsk/\bBgp ≠ X6t/\bBgp ≠ Xcw/\bBgp ≠ bAsk/\bBgp ≠ Xda:=by decide
theorem Xth (h:PS c cap m φ s) (hcb:cap + c.ws.length + 3 <= 8589934592) (hb:BlkOk s) (h0:s.blk ≠ 0) (d:Nat):PaD c cap (c.ws.length + 3) m φ s (X52 (TA (d + 9)) (blkV c s.blk) [pt c.C 0 0] m) (.tuple ⟨[]⟩) (X4x c s):=by
 obtain ⟨n1,n2,n3,n4,n5,e1,e2,e3,e4,e5,e6,e7,e8,e9,e10⟩:=Xxa;have hv:blkV c s.blk=.func (.func s.blk) ⟨[pt c.P 0 0]⟩ ⟨[]⟩:=by unfold blkV; rw [if_neg h0]
 rw [hv];unfold X4x;cases hb with
 | none h=>exact absurd h h0
 | iface hh n =>
  rw [hh,if_pos rfl];exact (Xs2 h (by omega) n d).pad
 | rule hh n =>
  rw [hh,if_neg e1,if_pos rfl];exact (Xwa h (by omega) n d).mono (by omega)
 | ask hh n =>
  rw [hh,if_neg e2,if_neg e3,if_pos rfl];exact (Xz3 h (by omega) n d).mono (by omega)
 | ospf hh n =>
  rw [hh,if_neg e4,if_neg e5,if_neg e6,if_pos rfl];exact (Xv2 h (by omega) n d).mono (by omega)
 | bgp hh n =>
  rw [hh,if_neg e7,if_neg e8,if_neg e9,if_neg e10];exact (Xz4 h (by omega) n d).mono (by omega)
def endL (c:Cx) (s:PSt):PSt:=
 let s2:=if X27 c s.cu=true then s.at (X3b s.cu (wdC c s.cu.pl).2 130) else s
 if bOf s2.X [0] 15=true then s2.at (X3b s2.cu (wdC c 0).2 7) else if bOf s2.X [0] 16=true then s2.at (X3b s2.cu (wdC c 0).2 120) else s2
def X47 (c:Cx) (s:PSt) (ind:Nat):PSt:=
 endL c (if ind=0 then topC c { s with blk:=0 } else if ind=1/\s.blk ≠ 0 then X4x c s else s.at (X3b s.cu (wdC c 0).2 70))
theorem X5f (s:PSt) (ws:List Str):(Xz s ws).blk=s.blk:=rfl
theorem Xib (s:PSt) (cu:Cu):(s.at cu).blk=s.blk:=rfl
theorem Xcs (c:Cx) (s:PSt) (e:Int):(badS c s e).blk=s.blk:=rfl
theorem Xc4 (s:PSt) (k:Key) (o:Nat) (cs:List Cl):(s.app k o cs).blk=s.blk:=rfl
theorem Xb2 (s:PSt) (k:Key) (o:Nat) (xs:List Value):(s.sto k o xs).blk=s.blk:=rfl
theorem Xwp (s:PSt) (k:Key) (o:Nat) (xs:List Value):(s.adp k o xs).blk=s.blk:=rfl
theorem Xr9 (s:PSt) (k:Key) (o:Nat) (cs:List Cl) (xs:List Value):(s.adopt k o cs xs).blk=s.blk:=rfl
theorem Xln (c:Cx) (k:Key) (o:Nat):∀ (f:Nat) (s:PSt),(X28 c k o f s).blk=s.blk
 | 0,s=>rfl
 | f + 1,s=>by
  unfold X28
  try dsimp only
  split
  ·exact Xln c k o f _
  ·rfl
theorem Xo0 (c:Cx) (s:PSt):(X6m c s).blk=s.blk:=by
 unfold X6m
 try dsimp only
 simp only [apply_ite PSt.blk,X5f,Xb2,Xib,Xcs,ite_self]
theorem Xt5 (c:Cx) (s:PSt):(Xcf c s).blk=s.blk:=rfl
theorem Xvy (c:Cx) (s:PSt) (k:Key) (b:Nat):(setC c s k b).2.blk=s.blk:=by
 unfold setC
 try dsimp only
 simp only [apply_ite PSt.blk,Xwp,Xln,Xb2,Xib,Xcs,ite_self]
theorem Xwv (c:Cx) (s:PSt):(askC c s).blk=s.blk:=by
 unfold askC
 try dsimp only
 simp only [apply_ite PSt.blk,X5f,Xvy,Xb2,Xib,Xcs,ite_self]
theorem Xsi (c:Cx) (s:PSt):(Xdh c s).blk=s.blk:=by
 unfold Xdh
 try dsimp only
 simp only [apply_ite PSt.blk,X5f,Xc4,Xb2,Xib,Xcs,ite_self]
theorem Xyw (s:PSt) (b:Nat) (i:Option Nat) (o:Nat) (yl:List Value) (ws:List Str):(X7s s b i o yl ws).blk=s.blk:=by
 unfold X7s;cases i <;> simp only [apply_ite PSt.blk,X5f,Xc4,Xb2,ite_self]
theorem Xv4 (c:Cx) (s:PSt):(bgpC c s).blk=s.blk:=by
 unfold bgpC
 try dsimp only
 rw [Xbd];unfold nbR
 try dsimp only
 simp only [apply_ite PSt.blk,X5f,Xc4,Xb2,Xib,Xcs,Xyw,ite_self]
theorem Xq4 (c:Cx) (s:PSt):(X4x c s).blk=s.blk:=by
 unfold X4x;simp only [apply_ite PSt.blk,Xo0,Xt5,Xwv,Xsi,Xv4,ite_self]
theorem Xdd (h:k ≠ [0]) (o:Nat) (xs:List Value):stF X k o xs [0]=X [0]:=by
 cases hx:X k with
 | none=>unfold stF; rw [hx]
 | some ob =>
  cases ob with
  | c l=>rw [X1b hx,NX.set_ne _ _ (Ne.symm h)]
  | m es cl=>unfold stF; rw [hx]
theorem Xxg (h:k ≠ [0]) (hn:k ≠ []) (o:Nat) (cs:List Cl):apF X k o cs [0]=X [0]:=by
 cases hx:X k with
 | none=>unfold apF; rw [hx]
 | some ob =>
  cases ob with
  | c l =>
   unfold apF;rw [hx];show (NX.set _ _ _) [0]=_;rw [NX.set_ne _ _ (Ne.symm h),NX.set_ne _ _ (fun e=>by grind)]
  | m es cl=>unfold apF; rw [hx]
theorem Xzw (h:k ≠ [0]) (hn:k ≠ []) (o:Nat) (vs:List Value):adF X k o vs [0]=X [0]:=by
 cases hx:X k with
 | none=>unfold adF; rw [hx]
 | some ob =>
  cases ob with
  | c l =>
   rw [Xhc hx,NX.set_ne _ _ (Ne.symm h),NX.set_ne _ _ (fun e=>by grind)]
  | m es cl=>unfold adF; rw [hx]
theorem Xuw (c:Cx) {k:Key} (h:k ≠ [0]) (hn:k ≠ []) (o:Nat):∀ (f:Nat) (s:PSt),(X28 c k o f s).X [0]=s.X [0]
 | 0,s=>rfl
 | f + 1,s=>by
  unfold X28
  try dsimp only
  have e:((s.at (Xb c s.cu 1 4294967295).2).app k o [.v (.int .u32 (Xb c s.cu 1 4294967295).1)]).X [0]=s.X [0]:=Xxg h hn _ _;split
  ·rw [Xuw c h hn o f _,e]
  ·exact e
def Root (X:NX):Prop:=∃ l,X [0]=some (.c l)/\l.length=18
theorem Root.of (h:Root X) (e:X' [0]=X [0]):Root X':=by
 obtain ⟨l,a,b⟩:=h;exact ⟨l,by grind,b⟩
theorem Root.st (h:Root X) (o:Nat) (x:Value) (ho:o < 18):Root (stF X [0] o [x])/\∀ j,j ≠ o->cl (stF X [0] o [x]) [0] j=cl X [0] j:=by
 obtain ⟨l,a,b⟩:=h;rw [X1b a];refine ⟨⟨_,NX.set_eq _ _ _,by simp; omega⟩,fun j hj=>?_⟩;rw [X84,X6i a];have g:=get_put (l:=l) (z:=[Cl.v x]) (o:=o) (by grind) j;have g:(l.take o ++ [x].map Cl.v ++ l.drop (o + [x].length))[j]?=_:=g;rw [g,if_neg (by grind)]
theorem Root.st_at (h:Root X) (o:Nat) (x:Value) (ho:o < 18):cl (stF X [0] o [x]) [0] o=.v x:=by
 obtain ⟨l,a,b⟩:=h;rw [X1b a,X84];have g:=get_put (l:=l) (z:=[Cl.v x]) (o:=o) (by grind) o;have g:(l.take o ++ [x].map Cl.v ++ l.drop (o + [x].length))[o]?=_:=g;rw [g,if_pos (by simp),Nat.sub_self];rfl
theorem Root.ap (h:Root X) (f:Nat) (cs:List Cl) (hf:f < 18):Root (apF X [0] f cs)/\nOf (apF X [0] f cs) [0] f=nOf X [0] f + 1/\∀ j,j ≠ f->cl (apF X [0] f cs) [0] j=cl X [0] j:=by
 obtain ⟨l,a,b⟩:=h;have e:apF X [0] f cs=(X.set (f :: [0]) (some (.c (X25 X (f :: [0]) ++ cs)))).set [0] (some (.c (l.set f (.s (nOf X [0] f + 1) cs.length)))):=by unfold apF; rw [a]
 rw [e];refine ⟨⟨_,NX.set_eq _ _ _,by rw [List.length_set]; exact b⟩,?_,fun j hj=>?_⟩
 ·show (match cl _ [0] f with | .s n _=>n | _=>0)=_
  rw [X84,List.getElem?_set,if_pos rfl,if_pos (by omega)];rfl
 ·rw [X84,X6i a,List.getElem?_set,if_neg (Ne.symm hj)]
theorem Root.single {s:PSt} (h:Root s.X) (ws:List Str):Root (X1s s ws).X/\∀ j,j ≠ 15->cl (X1s s ws).X [0] j=cl s.X [0] j:=by
 obtain ⟨a,b⟩:=h.st 15 (.bool (bOf s.X [0] 15 || decide (X2q [32] ws ∈ setOf s.X))) (by omega);refine ⟨a.of ?_,fun j hj=>?_⟩
 ·unfold X1s;dsimp only;rw [NX.set_ne _ _ (by decide)]
 ·unfold X1s;dsimp only;rw [Xph _ _ _ (by decide),b j hj]
theorem Xre {s:PSt} (h:Root s.X) (ws:List Str) (h0:k ≠ [0]) (h2:k ≠ [2]):(X1s s ws).X k=s.X k:=by
 obtain ⟨l,a,_⟩:=h;unfold X1s
 try dsimp only
 rw [NX.set_ne _ _ h2,X1b a,NX.set_ne _ _ h0]
theorem Xyq (c:Cx) (s:PSt) (hr:Root s.X):iOf (askC c s).X [0] 17=iOf s.X [0] 17:=by
 have ins:∀ (r:PSt) (ws:List Str),r.X [0]=s.X [0]->iOf (Xz r ws).X [0] 17=iOf s.X [0] 17:=fun r ws e=>by
  unfold Xz iOf vOf;rw [((hr.of e).single _).2 17 (by omega)];unfold cl;rw [e]
 have h0:askK s.X ≠ [0]:=fun e=>by unfold askK at e; injection e with e1 e2; cases e2
 have hn:askK s.X ≠ []:=fun e=>by unfold askK at e; cases e
 unfold askC
 try dsimp only
 generalize askK s.X=K at h0 hn;generalize askB s.X=b;split
 ·refine ins _ _ ?_;have:∀ (p:Prop) [Decidable p] (a b:PSt),a.X [0]=s.X [0]->b.X [0]=s.X [0]->(if p then a else b).X [0]=s.X [0]:=fun p _ a b ha hb=>by grind
  exact this _ _ _ (Xdd h0 _ _) (this _ _ _ (Xdd h0 _ _) (this _ _ _ (Xdd h0 _ _) (this _ _ _ (Xdd h0 _ _) (this _ _ _ (Xdd h0 _ _) rfl))))
 ·split
  ·refine ins _ _ ?_;unfold setC
   try dsimp only
   have:∀ (p:Prop) [Decidable p] (a b:PSt),a.X [0]=s.X [0]->b.X [0]=s.X [0]->(if p then a else b).X [0]=s.X [0]:=fun p _ a b ha hb=>by grind
   exact this _ _ _ (Xdd h0 _ _) (this _ _ _ (Xdd h0 _ _) (this _ _ _ (Xdd h0 _ _) (this _ _ _ ((Xzw h0 hn _ _).trans (Xdd h0 _ _)) (this _ _ _ (Xuw c h0 hn _ _ _) (this _ _ _ (Xdd h0 _ _) rfl)))))
  ·split
   ·exact ins _ _ (Xdd h0 _ _)
   ·rfl
variable {c:Cx} {m0 m:Mem} {φ0 φ:Phi} {s0 s s':PSt} {cap δ:Nat} {ts:List Tmp} {x:Option Rs} {Q:Value->Nat->Phi->PSt->Prop} {v:Value} {cu:Cu}
theorem Xva (h:X' k=X k) (o:Nat):cl X' k o=cl X k o:=by grind [cl]
theorem row_root (s:PSt) (hr:Root s.X) (n:Str) (cs:List Cl) {sz:Nat} (ho:o < 18):Root (rowOf s o sz n cs).2.X/\(rowOf s o sz n cs).1 < nOf (rowOf s o sz n cs).2.X [0] o/\(rowOf s o sz n cs).2.blk=s.blk:=by
 unfold rowOf;cases hf:X6y s.X [0] o sz 0 n with
 | some i =>
  have:=X7h _ _ _ _ _ _ hf;exact ⟨hr,by grind,rfl⟩
 | none =>
  obtain ⟨a,b,_⟩:=hr.ap o cs ho;exact ⟨a,by grind,rfl⟩
theorem Xmn (s:PSt) (name:Str) (act:Nat) (seq:Int) (hr:Root s.X) (h:PS c cap m φ (X64 s name act seq)):Xx4 (X64 s name act seq).X:=by
 obtain ⟨r1,r2,_⟩:=row_root s hr name [.v (sv name),.s 0 15,.v (.bool false)] (o:=9) (sz:=3) (by omega);obtain ⟨_,q2,_,_,q5⟩:=h.dev (f:=9) (r':=12) (sz:=3) rfl (by omega) rfl;unfold X64 at q2 q5 ⊢;dsimp only at q2 q5 ⊢;generalize rowOf s 9 3 name [.v (sv name),.s 0 15,.v (.bool false)]=R at r1 r2 q2 q5 ⊢;generalize hcs:([.v (.int .i64 seq),.v (.int .u8 (act:Int)),.v (sv []),.v (sv []),.v (.int .i64 (-1)),.v (.int .i64 (-1)),.v (.int .i64 (-1)),.v (.int .i64 (-1)),.v (.int .i64 (-1)),.v (.int .i64 (-1)),.s 0 1,.v (.bool false),.s 0 1,.v (u32 0),.v (.int .i64 0)]:List Cl)=cs at q2 q5 ⊢;obtain ⟨t1,t2⟩:=r1.st 17 (I R.1) (by omega);have t3:=r1.st_at 17 (I R.1) (by omega);have a0:((R.2.sto [0] 17 [I R.1]).app [9,0] (R.1 * 3 + 1) cs).X [0]=(R.2.sto [0] 17 [I R.1]).X [0]:=Xxg (by decide) (by decide) _ _;have u1:Root ((R.2.sto [0] 17 [I R.1]).app [9,0] (R.1 * 3 + 1) cs).X:=Root.of t1 a0;obtain ⟨w1,w2⟩:=u1.single [[114,111,117,116,101,45,109,97,112],name,X24 seq.toNat];have e17:cl (X1s ((R.2.sto [0] 17 [I R.1]).app [9,0] (R.1 * 3 + 1) cs) [[114,111,117,116,101,45,109,97,112],name,X24 seq.toNat]).X [0] 17=.v (I R.1):=by
  rw [w2 17 (by omega),Xva a0];exact t3
 have e9:cl (X1s ((R.2.sto [0] 17 [I R.1]).app [9,0] (R.1 * 3 + 1) cs) [[114,111,117,116,101,45,109,97,112],name,X24 seq.toNat]).X [0] 9=cl R.2.X [0] 9:=by
  rw [w2 9 (by omega),Xva a0];exact t2 9 (by omega)
 have e90:(X1s ((R.2.sto [0] 17 [I R.1]).app [9,0] (R.1 * 3 + 1) cs) [[114,111,117,116,101,45,109,97,112],name,X24 seq.toNat]).X [9,0]=((R.2.sto [0] 17 [I R.1]).app [9,0] (R.1 * 3 + 1) cs).X [9,0]:=Xre u1 _ (by decide) (by decide);generalize hS:X1s ((R.2.sto [0] 17 [I R.1]).app [9,0] (R.1 * 3 + 1) cs) [[114,111,117,116,101,45,109,97,112],name,X24 seq.toNat]=S at e17 e9 e90;have hi:iOf S.X [0] 17=(R.1:Int):=by unfold iOf vOf; rw [e17]
 have hn:nOf S.X [0] 9=nOf R.2.X [0] 9:=by unfold nOf; rw [e9]
 have hSX:(X8z ((R.2.sto [0] 17 [I R.1]).app [9,0] (R.1 * 3 + 1) cs) bAsk [[114,111,117,116,101,45,109,97,112],name,X24 seq.toNat]).X=S.X:=by rw [<- hS]; rfl
 rw [hSX] at q5 ⊢;obtain ⟨l',a1,a2,_⟩:=q5 (by omega);have hend:=row_end (sz:=3) r2;refine ⟨by omega,by omega,?_⟩;rw [hi,Int.toNat_natCast];rw [e90] at a1;have a1:apF (R.2.sto [0] 17 [I R.1]).X [9,0] (R.1 * 3 + 1) cs [9,0]=some (.c l'):=a1;have key:nOf S.X [9,0] (R.1 * 3 + 1)=nOf (apF (R.2.sto [0] 17 [I R.1]).X [9,0] (R.1 * 3 + 1) cs) [9,0] (R.1 * 3 + 1):=by unfold nOf; rw [Xva e90]; rfl
 rw [key];cases hx:(R.2.sto [0] 17 [I R.1]).X [9,0] with
 | none =>
  unfold apF at a1;rw [hx] at a1;have a1:(R.2.sto [0] 17 [I R.1]).X [9,0]=some (.c l'):=a1;rw [hx] at a1; cases a1
 | some ob =>
  cases ob with
  | m es cl =>
   unfold apF at a1;rw [hx] at a1;have a1:(R.2.sto [0] 17 [I R.1]).X [9,0]=some (.c l'):=a1;rw [hx] at a1; cases a1
  | c l =>
   have e:apF (R.2.sto [0] 17 [I R.1]).X [9,0] (R.1 * 3 + 1) cs=((R.2.sto [0] 17 [I R.1]).X.set ((R.1 * 3 + 1) :: [9,0]) (some (.c (X25 (R.2.sto [0] 17 [I R.1]).X ((R.1 * 3 + 1) :: [9,0]) ++ cs)))).set [9,0] (some (.c (l.set (R.1 * 3 + 1) (.s (nOf (R.2.sto [0] 17 [I R.1]).X [9,0] (R.1 * 3 + 1) + 1) cs.length)))):=by unfold apF; rw [hx]
   rw [e,NX.set_eq] at a1;cases a1;rw [List.length_set] at a2;rw [e];show 0 < (match cl _ [9,0] (R.1 * 3 + 1) with | .s n _=>n | _=>0)
   rw [X84,List.getElem?_set,if_pos rfl,if_pos (by omega)];exact Nat.succ_pos _
theorem X98 (s:PSt) (hr:Root s.X) (b:Nat) (ws:List Str):Root (X8z s b ws).X:=(hr.single ws).1
theorem X10g (s:PSt) (hr:Root s.X) (ws:List Str) (cs:List Cl):BlkOk ((X8z s X6t ws).app [0] 3 cs):=by
 obtain ⟨_,b,_⟩:=(X98 s hr X6t ws).ap 3 cs (by omega);exact .iface rfl (Nat.lt_of_lt_of_eq (Nat.succ_pos _) b.symm)
theorem Xzx (s:PSt) (hr:Root s.X) (ws:List Str) (cs:List Cl):BlkOk ((X8z s Xcw ws).app [0] 4 cs):=by
 obtain ⟨_,b,_⟩:=(X98 s hr Xcw ws).ap 4 cs (by omega);exact .rule rfl (Nat.lt_of_lt_of_eq (Nat.succ_pos _) b.symm)
theorem Xzv (s:PSt) (hr:Root s.X) (ws:List Str) (cs:List Cl):BlkOk ((X8z s Xda ws).app [0] 10 cs):=by
 obtain ⟨_,b,_⟩:=(X98 s hr Xda ws).ap 10 cs (by omega);exact .ospf rfl (Nat.lt_of_lt_of_eq (Nat.succ_pos _) b.symm)
theorem X100 (s:PSt) (hr:Root s.X) (ws:List Str) (cs:List Cl):BlkOk ((X8z s bBgp ws).app [0] 11 cs):=by
 obtain ⟨_,b,_⟩:=(X98 s hr bBgp ws).ap 11 cs (by omega);exact .bgp rfl (Nat.lt_of_lt_of_eq (Nat.succ_pos _) b.symm)
theorem Xpk (s:PSt):(X77 c s).blk=s.blk:=by
 unfold X77;extract_lets v a k d h x n e y g t;clear_value t;rfl
theorem Xkh (s:PSt) (e:Int):(badS c s e).blk=s.blk:=rfl
theorem Xzu (s0:PSt) (hr:Root s0.X) (h0:s0.blk=0):BlkOk (ipC c s0):=by
 unfold ipC;generalize Xf c s0.cu=w;have hr1:Root (s0.at w.2).X:=hr;have h1:(s0.at w.2).blk=0:=h0;dsimp only;generalize s0.at w.2=s at hr1 h1 ⊢;split
 ·exact .none ((Xpk s).trans h1)
 ·split
  ·exact Xzx (s.at (X17 c s.cu).2) hr1 _ _
  ·split
   ·refine .none ?_;exact (Xc4 _ _ _ _).trans ((row_root (s.at (X42 c (X17 c s.cu).2).2) hr1 _ _ (o:=7) (by omega)).2.2.trans h1)
   ·split
    ·refine .none ?_;exact (Xr9 _ _ _ _ _).trans ((row_root (s.at (X1y c (c.ws.length + 1) (oneC c (X17 c s.cu).2 [[112,101,114,109,105,116],[100,101,110,121]]).2).2) hr1 _ _ (o:=8) (by omega)).2.2.trans h1)
    ·split
     ·exact .none (by rw [Xc4]; exact h1)
     ·exact .none ((Xkh s _).trans h1)
theorem Xp8 (s:PSt) (hr:Root s.X):BlkOk (X4b c s):=by
 unfold X4b;generalize oneC c s.cu [[111,115,112,102],[98,103,112]]=o;dsimp only;split
 ·exact Xzv (s.at (vrfC c o.2).2) hr _ _
 ·exact X100 (s.at (vrfC c (Xb c o.2 1 4294967295).2).2) hr _ _
theorem Xy9 (s0:PSt) (hr:Root s0.X) (h0:s0.blk=0) (h:PS c cap m φ (topC c s0)):BlkOk (topC c s0):=by
 unfold topC at h ⊢;generalize Xf c s0.cu=w at h ⊢;have hr1:Root (s0.at w.2).X:=hr;have h1:(s0.at w.2).blk=0:=h0;dsimp only at h ⊢;generalize s0.at w.2=s at h hr1 h1 ⊢;by_cases e1:w.1=[104,111,115,116,110,97,109,101]
 ·rw [if_pos e1];exact .none (by show s.blk=0; exact h1)
 ·rw [if_neg e1] at h ⊢;by_cases e2:w.1=[118,114,102]
  ·rw [if_pos e2];exact .none (by show s.blk=0; exact h1)
  ·rw [if_neg e2] at h ⊢;by_cases e3:w.1=[105,110,116,101,114,102,97,99,101]
   ·rw [if_pos e3];exact X10g (s.at (X17 c s.cu).2) hr1 _ _
   ·rw [if_neg e3] at h ⊢;by_cases e4:w.1=[105,112]
    ·rw [if_pos e4];exact Xzu s hr1 h1
    ·rw [if_neg e4] at h ⊢;by_cases e5:w.1=[114,111,117,116,101,45,109,97,112]
     ·rw [if_pos e5] at h ⊢;generalize X17 c s.cu=n at h ⊢;generalize oneC c n.2 [[112,101,114,109,105,116],[100,101,110,121],[110,101,120,116]]=o at h ⊢;generalize Xb c o.2 1 65535=q at h ⊢;exact Xmn (s.at q.2) _ _ _ hr1 h |> fun a=>.ask rfl a
     ·rw [if_neg e5];by_cases e6:w.1=[114,111,117,116,101,114]
      ·rw [if_pos e6];exact Xp8 s hr1
      ·rw [if_neg e6];exact .none ((Xkh s _).trans h1)
theorem Xzc (c:Cx) (s:PSt):(endL c s).X=s.X/\(endL c s).blk=s.blk/\(endL c s).inn=s.inn:=by
 unfold endL
 try dsimp only
 split <;> (repeat' split) <;> exact ⟨rfl,rfl,rfl⟩
theorem BlkOk.congr {s s':PSt} (h:BlkOk s) (hX:s'.X=s.X) (hb:s'.blk=s.blk):BlkOk s':=by
 cases h with
 | none h=>exact .none (by omega)
 | iface h n=>exact .iface (by omega) (by grind)
 | rule h n=>exact .rule (by omega) (by grind)
 | ask h n=>exact .ask (by omega) (by grind)
 | ospf h n=>exact .ospf (by omega) (by grind)
 | bgp h n=>exact .bgp (by omega) (by grind)
theorem Xs7 (s:PSt) (hr:Root s.X) (h:BlkOk s) (h0:s.blk ≠ 0) (hX0:c.X0=s.X) (hp:PS c cap m φ (X4x c s)):BlkOk (X4x c s):=by
 have ge:=hp.ok.ge;rw [hX0] at ge;have hb:=Xq4 c s;obtain ⟨n1,n2,n3,n4,n5,e1,e2,e3,e4,e5,e6,e7,e8,e9,e10⟩:=Xxa;cases h with
 | none h=>exact absurd h h0
 | iface h n=>exact .iface (by omega) (Nat.lt_of_lt_of_le n (ge 3).1)
 | rule h n=>exact .rule (by omega) (Nat.lt_of_lt_of_le n (ge 4).1)
 | ask h n =>
  have e:X4x c s=askC c s:=by simp_all [X4x,if_neg,e2,e3,if_pos]
  have hi:iOf (X4x c s).X [0] 17=iOf s.X [0] 17:=by rw [e]; exact Xyq c s hr
  exact .ask (by omega) ⟨by rw [hi]; exact n.pos,by rw [hi]; exact Nat.lt_of_lt_of_le n.lt (ge 9).1,by rw [hi]; exact Nat.lt_of_lt_of_le n.cl (ge _).2⟩
 | ospf h n=>exact .ospf (by omega) (Nat.lt_of_lt_of_le n (ge 10).1)
 | bgp h n=>exact .bgp (by omega) (Nat.lt_of_lt_of_le n (ge 11).1)
theorem PS.ldb (h:PS c cap m φ s) (ho:o=15\/o=16):X8 false 1 (pt c.P o 0) m=some (.bool (bOf s.X [0] o)):=by
 obtain ⟨l,hk,hl18,ld⟩:=h.root;obtain ⟨d,q1,q2⟩:=h.wt.get hk (r:=0) rfl (o:=o) (by omega);have hf:fdAt 0 o=some .b:=by rcases ho with rfl | rfl <;> rfl
 rw [hf] at q2;cases d with
 | s n sz=>exact False.elim q2
 | v y =>
  obtain ⟨z,rfl⟩:=q2;rw [ld o _ (.inr (by omega)) q1,Xu8 hk q1]
abbrev d9 (d:Nat):Gt:=⟨TA (d + 9),18446744073709551616⟩
theorem Xt4 (d:Nat) (k0:Value->Value->Value->Value->Value->Value->Mem->Option Rs) (p2 p3 p32 p31 p30:Value) (k:W c m0 φ0 s0 cap m φ s [(bf,0,[I c.ln,I (wdC c 0).2])]) :
  ∃ m',Q7q (d9 d) k0 (pt c.C 0 0) (pt c.P 0 0) (pt bf 0 0) p2 p3 p32 p31 p30 m=Q1w (d9 d) k0 (pt c.C 0 0) p2 p3 p32 p31 p30 (pt c.P 0 0) m'/\W c m0 φ0 s0 cap m' φ (endL c s) [(bf,0,[I c.ln,I (wdC c 0).2])]:=by
 have hm:TA (d + 9) Q1k [pt c.C 0 0] m=some (.bool (X27 c s.cu),m):=c_more k.ps (d + 8);have two:∀ (m1:Mem) (s1:PSt),W c m0 φ0 s0 cap m1 φ s1 [(bf,0,[I c.ln,I (wdC c 0).2])]->∃ m',Qca (d9 d) k0 (pt c.P 0 0) (pt c.C 0 0) (pt bf 0 0) p2 p3 p32 p31 p30 m1=Q1w (d9 d) k0 (pt c.C 0 0) p2 p3 p32 p31 p30 (pt c.P 0 0) m'/\W c m0 φ0 s0 cap m' φ (if bOf s1.X [0] 15=true then s1.at (X3b s1.cu (wdC c 0).2 7) else if bOf s1.X [0] 16=true then s1.at (X3b s1.cu (wdC c 0).2 120) else s1) [(bf,0,[I c.ln,I (wdC c 0).2])]:=fun m1 s1 k1=>by
  have l15:=k1.ps.ldb (o:=15) (.inl rfl);have l16:=k1.ps.ldb (o:=16) (.inr rfl);have lf:X8 true 2 (pt bf 0 0) m1=some (posV c.ln (wdC c 0).2):=k1.lds (o:=0) (cs:=[I c.ln,I (wdC c 0).2]) (List.mem_cons_self ..) (by simp) rfl;delta Qca C Q qc qa A;simp only [Xh,X9,X3,Nat.zero_add,l15,l16,lf];cases h15:bOf s1.X [0] 15 with
  | true =>
   rw [X7,if_pos rfl];obtain ⟨m2,a1,a2,a3⟩:=Xcl k1.ps (wdC c 0).2 7 (by decide) (d + 8);have a1:TA (d + 9) Q10 [pt c.C 0 0,posV c.ln (wdC c 0).2,.int .i64 7] m1=some (.tuple ⟨[]⟩,m2):=a1;rw [a1,X4];exact ⟨m2,rfl,k1.go a2 a3⟩
  | false =>
   rw [X6,if_neg (by decide)];cases h16:bOf s1.X [0] 16 with
   | true =>
    rw [X7,if_pos rfl];obtain ⟨m2,a1,a2,a3⟩:=Xcl k1.ps (wdC c 0).2 120 (by decide) (d + 8);have a1:TA (d + 9) Q10 [pt c.C 0 0,posV c.ln (wdC c 0).2,.int .i64 120] m1=some (.tuple ⟨[]⟩,m2):=a1;rw [a1,X4];exact ⟨m2,rfl,k1.go a2 a3⟩
   | false =>
    rw [X6,if_neg (by decide)];exact ⟨m1,rfl,k1⟩
 delta Q7q C qz Q qa Y A;unfold endL
 try dsimp only
 rw [hm,X4];cases hmo:X27 c s.cu with
 | true =>
  have hlt:=X93 hmo;obtain ⟨p,p1,p2',p3',_,_,p6,_⟩:=k.ps.wl.ix (i:=s.cu.pl) hlt;rw [X7,if_pos rfl];have l0:X8 false 1 (pt c.C 0 0) m=some c.wv:=k.ps.ld rfl;have l1:X8 false 1 (pt c.C 1 0) m=some (I s.cu.pl):=k.ps.ld rfl;simp only [Xh,X9,X3,Nat.zero_add,l0,l1,p1,p2',p6];obtain ⟨m2,a1,a2,a3⟩:=Xcl k.ps (wdC c s.cu.pl).2 130 (by decide) (d + 8);have a1:TA (d + 9) Q10 [pt c.C 0 0,.agg ⟨[I c.ln,I (wdC c s.cu.pl).2]⟩,.int .i64 130] m=some (.tuple ⟨[]⟩,m2):=a1;rw [a1,X4];exact two m2 _ (k.go a2 a3)
 | false =>
  rw [X6];simp only [Bool.false_eq_true,if_false];exact two m s k
variable {c:Cx} {m0 m:Mem} {φ0 φ:Phi} {s0 s s':PSt} {cap δ:Nat} {ts:List Tmp} {x:Option Rs} {Q:Value->Nat->Phi->PSt->Prop} {v:Value} {cu:Cu}
def bX (P O:Nat) (s:PSt):NX:=stF s.X [0] 12 [if s.blk=0 then .nilFunc else .func (.func s.blk) ⟨[pt P 0 0]⟩ ⟨[]⟩,sv s.inn,mapV O]
theorem Xw5 (c:Cx) (s:PSt):toX c s=(bX c.P c.O s).set [1] (some (.c (cc c s.cu))):=rfl
theorem Xip {s:PSt} (w:WT s.X) (h:k ≠ [0]):bX P O s k=s.X k:=by
 obtain ⟨l,a,_⟩:=w.root;unfold bX;rw [X1b a,NX.set_ne _ _ h]
theorem Xv0 {s:PSt} (w:WT s.X) (l:List Cl):bX P O s [] ≠ some (.c l):=by
 rw [Xip w (by decide)];intro e;obtain ⟨r,h1,_⟩:=w.ty _ _ e;cases h1
structure LI (B P O cap:Nat) (m:Mem) (φ:Phi) (s:PSt):Prop where
 nr:NR cap m φ (bX P O s)
 pP:φ [0]=⟨P,0,0⟩
 pO:φ [2]=⟨O,0,0⟩
 wt:WT s.X
 il:s.inn.length <= SB
 hB:∀ k,bX P O s k ≠ none->B <= (φ k).b
 bk:BlkOk s
theorem Xha (ln:Nat):∀ (ws:List Wd) (i:Nat) (w:Wd),ws[i]?=some w->(X3d ln ws)[i * 3]?=some (sv w.1)/\(X3d ln ws)[i * 3 + 1]?=some (I ln)/\(X3d ln ws)[i * 3 + 2]?=some (I w.2)
 | [],i,w,h=>by simp at h
 | a :: l,0,w,h=>by cases h; exact ⟨rfl,rfl,rfl⟩
 | a :: l,i + 1,w,h=>by
  have ih:=Xha ln l i w h;have e:∀ j,(X3d ln (a :: l))[(i + 1) * 3 + j]?=(X3d ln l)[i * 3 + j]?:=fun j=>by
   first | grind [X3d] | grind [X3d,List.flatMap_cons]
  have e0:=e 0;rw [Nat.add_zero,Nat.add_zero] at e0;rw [e0,e 1,e 2];exact ih
theorem Xse (c:Cx) (b:Nat):bin .neq true true .func (blkV c b) .nilFunc=some (.bool (decide (b ≠ 0))):=by
 unfold blkV;by_cases h:b=0
 ·rw [if_pos h,decide_eq_false (fun e=>e h),X1z]; rfl
 ·rw [if_neg h,decide_eq_true h,X1z]; rfl
theorem Xx6 (d:Nat) (k0:Value->Value->Value->Value->Value->Value->Mem->Option Rs) (p2 p3 p32 p31 p30:Value) {B bl:Nat} (h:LI B P O cap m φ s) (hBm:B <= m.next) (Pr:Nat->Prop) (hPr:∀ b,Pr b->b < m.next/\∀ k,bX P O s k ≠ none->(φ k).b ≠ b) (x:Ln) (L:Lc) (hne:x.ws ≠ []) (hLr:L.r < 2) (hLg:∃ ty,m.get L.b=some (.cells (X3d x.ln x.ws) L.ver 0 false ty)) (hPL:Pr L.b) (hbl:Pr bl) (hblg:∃ ty,m.get bl=some (.cells [I x.ind,slV L x.ws.length 3] 0 0 false ty)) (hwl:x.ws.length <= 65536) (hwt:∀ w ∈ x.ws,w.1.length <= 65536/\w.2 <= 65536) (hcap:cap + x.ws.length + 3 <= 8589934592) :
  ∃ m' cap' φ' C,Qgf (d9 d) k0 (pt bl 0 0) (pt P 0 0) p2 p3 p32 p31 p30 m=Q1w (d9 d) k0 (pt C 0 0) p2 p3 p32 p31 p30 (pt P 0 0) m' /\
   PS ⟨C,P,O,L.b,slV L x.ws.length 3,x.ws,x.ln,s.X⟩ cap' m' φ' (X47 ⟨C,P,O,L.b,slV L x.ws.length 3,x.ws,x.ln,s.X⟩ (s.at ⟨0,none⟩) x.ind)/\cap' <= cap + x.ws.length + 3/\BlkOk (X47 ⟨C,P,O,L.b,slV L x.ws.length 3,x.ws,x.ln,s.X⟩ (s.at ⟨0,none⟩) x.ind) /\
   (∀ k,toX ⟨C,P,O,L.b,slV L x.ws.length 3,x.ws,x.ln,s.X⟩ (X47 ⟨C,P,O,L.b,slV L x.ws.length 3,x.ws,x.ln,s.X⟩ (s.at ⟨0,none⟩) x.ind) k ≠ none->B <= (φ' k).b)/\Fb B m m' /\
   (∀ b,Pr b->m'.get b=m.get b/\b < m'.next/\∀ k,toX ⟨C,P,O,L.b,slV L x.ws.length 3,x.ws,x.ln,s.X⟩ (X47 ⟨C,P,O,L.b,slV L x.ws.length 3,x.ws,x.ln,s.X⟩ (s.at ⟨0,none⟩) x.ind) k ≠ none->(φ' k).b ≠ b):=by
 have hlz:x.ws.length ≠ 0:=fun e=>hne (List.eq_nil_of_length_eq_zero e);have hsl:slV L x.ws.length 3=.slice (some ⟨L.b,0,some 3⟩) x.ws.length (2 * L.ver + L.r):=if_neg hlz;obtain ⟨tyb,hblg⟩:=hblg;obtain ⟨tyL,hLg⟩:=hLg;generalize hc:(⟨m.next,P,O,L.b,slV L x.ws.length 3,x.ws,x.ln,s.X⟩:Cx)=c;have cC:c.C=m.next:=by rw [<- hc]
 have cP:c.P=P:=by rw [<- hc]
 have cO:c.O=O:=by rw [<- hc]
 have cwb:c.wb=L.b:=by rw [<- hc]
 have cwv:c.wv=slV L x.ws.length 3:=by rw [<- hc]
 have cws:c.ws=x.ws:=by rw [<- hc]
 have cln:c.ln=x.ln:=by rw [<- hc]
 have cX0:c.X0=s.X:=by rw [<- hc]
 let vs:List Value:=[slV L x.ws.length 3,I 0,I 0,I 0,I 0]
 have hvs1:vs.all one=true:=by
  show ([slV L x.ws.length 3,I 0,I 0,I 0,I 0]:List Value).all one=true;rw [hsl]; rfl
 have n1:=h.nr.newK (Xip h.wt (by decide) |>.trans h.wt.no1) (Xv0 h.wt) vs hvs1 (some (2 * Qkr + 1));generalize hm1:m.push (.cells vs 0 0 false (some (2 * Qkr + 1)))=m1 at n1;have hn1:m1.next=m.next + 1:=by rw [<- hm1]; rfl
 have hg1:∀ b,b < m.next->m1.get b=m.get b:=fun b hb=>by rw [<- hm1,Mem.get_push,if_neg (by omega)]
 have F1:Fb B m m1:=by rw [<- hm1]; exact Fb.push _ hBm
 generalize hφ1:φ.set [1] ⟨m.next,0,0⟩=φ1 at n1;have hφe:φ1 [1]=⟨m.next,0,0⟩:=by rw [<- hφ1,Phi.set_eq]
 have hφn:∀ k,k ≠ [1]->φ1 k=φ k:=fun k hk=>by rw [<- hφ1,Phi.set_ne _ _ hk]
 have hX1:(bX P O s).set [1] (some (.c (vs.map .v)))=toX c (s.at ⟨0,none⟩):=by
  rw [Xw5,cP,cO];show _=(bX P O s).set [1] (some (.c (cc c ⟨0,none⟩)));unfold cc;rw [cwv];rfl
 rw [hX1] at n1;have away1:∀ b,Pr b->∀ k,toX c (s.at ⟨0,none⟩) k ≠ none->(φ1 k).b ≠ b:=fun b hb k hk=>by
  obtain ⟨q1,q2⟩:=hPr b hb;by_cases e:k=[1]
  ·grind
  ·rw [hφn k e];rw [<- hX1,NX.set_ne _ _ e] at hk;exact q2 k hk
 have hB1:∀ k,toX c (s.at ⟨0,none⟩) k ≠ none->B <= (φ1 k).b:=fun k hk=>by
  by_cases e:k=[1]
  ·grind
  ·rw [hφn k e];rw [<- hX1,NX.set_ne _ _ e] at hk;exact h.hB k hk
 have WL1:WL c m1:={
  ne:=by grind
  lt:=by grind
  at':=⟨0,2 * L.ver + L.r,X3d x.ln x.ws,0,false,tyL,by grind,by grind,by rw [cws,Xeb]; omega,fun i w hw=>by
   rw [cws] at hw;rw [Nat.zero_add,cln];exact Xha x.ln x.ws i w hw⟩
  len:=by grind
  txt:=by grind }
 have P1:PS c cap m1 φ1 (s.at ⟨0,none⟩):={
  nr:=n1
  wl:=WL1
  nb:=by grind
  pC:=by grind
  pP:=by simp [cP,hφn,h.pP]
  pO:=by simp [cO,hφn,h.pO]
  ok:=⟨Nat.zero_le _,fun y hy=>(by cases hy),h.wt,h.il,by rw [cX0]; exact Ge.refl _⟩ }
 have k1:=W.start P1;have hgb:∀ {cap2:Nat} {m2:Mem} {φ2:Phi} {s2:PSt} {ts:List Tmp},W c m1 φ1 (s.at ⟨0,none⟩) cap2 m2 φ2 s2 ts->∀ b,Pr b->m2.get b=m.get b/\b < m2.next/\∀ k,toX c s2 k ≠ none->(φ2 k).b ≠ b:=fun {cap2 m2 φ2 s2 ts} w b hb=>by
  have q1:=(hPr b hb).1;refine ⟨by rw [w.wk.get b (by omega) (away1 b hb),hg1 b q1],by grind [w.wk.next],fun k hk=>?_⟩;rcases w.wk.nw k hk with q | ⟨k0,e1,e2⟩
  ·omega
  ·grind
 have hFb:∀ {cap2:Nat} {m2:Mem} {φ2:Phi} {s2:PSt} {ts:List Tmp},W c m1 φ1 (s.at ⟨0,none⟩) cap2 m2 φ2 s2 ts->Fb B m m2:=fun {cap2 m2 φ2 s2 ts} w=>F1.trans {
  next:=w.wk.next
  low:=w.wk.low
  low2:=fun y a b=>w.wk.low2 y a (by omega) fun k hk=>by grind
  get:=fun b hb=>w.wk.get b (by omega) fun k hk=>by grind
  lo:=w.wk.lo }
 have hBk:∀ {cap2:Nat} {m2:Mem} {φ2:Phi} {s2:PSt} {ts:List Tmp},W c m1 φ1 (s.at ⟨0,none⟩) cap2 m2 φ2 s2 ts->∀ k,toX c s2 k ≠ none->B <= (φ2 k).b:=fun {cap2 m2 φ2 s2 ts} w k hk=>by
  rcases w.wk.nw k hk with q | ⟨k0,e1,e2⟩
  ·omega
  ·grind
 -- the first word's place
 have ldl:∀ {cap2:Nat} {m2:Mem} {φ2:Phi} {s2:PSt} {ts:List Tmp},W c m1 φ1 (s.at ⟨0,none⟩) cap2 m2 φ2 s2 ts->X8 false 1 (pt bl 0 0) m2=some (I x.ind)/\X8 false 1 (pt bl 1 0) m2=some (slV L x.ws.length 3):=fun {cap2 m2 φ2 s2 ts} w=>by
  have e:=(hgb w bl hbl).1;exact ⟨X12 (by rw [e]; exact hblg) rfl,X12 (by rw [e]; exact hblg) rfl⟩
 have ldl0:X8 false 1 (pt bl 1 0) m=some (slV L x.ws.length 3):=X12 hblg rfl;have eb:Xg Qks [(0,1),(1,1),(2,2),(4,1)] [(0,slV L x.ws.length 3)]=some (.agg ⟨vs⟩):=by
  show Xg Qks [(0,1),(1,1),(2,2),(4,1)] [(0,slV L x.ws.length 3)]=some (.agg ⟨[slV L x.ws.length 3,I 0,I 0,I 0,I 0]⟩);rw [hsl]; exact Eq.trans rfl rfl
 have hcv:(Value.cells (.agg ⟨vs⟩)).toList=vs:=rfl;have hp0:0 < c.ws.length:=by grind
 obtain ⟨p,p1,p2',_,_,_,p6,_⟩:=WL1.ix hp0;have p1:Xa 3 (slV L x.ws.length 3) (.int .i64 0)=some (p 0):=by grind
 have k2:=k1.push Q3 (some (2 * Q8 + 1));obtain ⟨m3,st3,k3⟩:=W.stoE (l1:=[]) (l2:=[]) k2 (o:=0) (n:=2) (y:=posV c.ln (wdC c 0).2) (cs':=[I c.ln,I (wdC c 0).2]) rfl rfl (by show 0 + 2 <= 2; omega) rfl;have k3:W c m1 φ1 (s.at ⟨0,none⟩) cap m3 φ1 (s.at ⟨0,none⟩) [(m1.next,0,[I c.ln,I (wdC c 0).2])]:=k3;have fin:∀ {cap2:Nat} {m2:Mem} {φ2:Phi} {s2:PSt},W c m1 φ1 (s.at ⟨0,none⟩) cap2 m2 φ2 s2 [(m1.next,0,[I c.ln,I (wdC c 0).2])]->cap2 <= cap + x.ws.length + 3->endL c s2=X47 c (s.at ⟨0,none⟩) x.ind->BlkOk s2 ->
   ∃ m' cap' φ' C,Q7q (d9 d) k0 (pt c.C 0 0) (pt P 0 0) (pt m1.next 0 0) p2 p3 p32 p31 p30 m2=Q1w (d9 d) k0 (pt C 0 0) p2 p3 p32 p31 p30 (pt P 0 0) m' /\
   PS ⟨C,P,O,L.b,slV L x.ws.length 3,x.ws,x.ln,s.X⟩ cap' m' φ' (X47 ⟨C,P,O,L.b,slV L x.ws.length 3,x.ws,x.ln,s.X⟩ (s.at ⟨0,none⟩) x.ind)/\cap' <= cap + x.ws.length + 3/\BlkOk (X47 ⟨C,P,O,L.b,slV L x.ws.length 3,x.ws,x.ln,s.X⟩ (s.at ⟨0,none⟩) x.ind) /\
   (∀ k,toX ⟨C,P,O,L.b,slV L x.ws.length 3,x.ws,x.ln,s.X⟩ (X47 ⟨C,P,O,L.b,slV L x.ws.length 3,x.ws,x.ln,s.X⟩ (s.at ⟨0,none⟩) x.ind) k ≠ none->B <= (φ' k).b)/\Fb B m m' /\
   (∀ b,Pr b->m'.get b=m.get b/\b < m'.next/\∀ k,toX ⟨C,P,O,L.b,slV L x.ws.length 3,x.ws,x.ln,s.X⟩ (X47 ⟨C,P,O,L.b,slV L x.ws.length 3,x.ws,x.ln,s.X⟩ (s.at ⟨0,none⟩) x.ind) k ≠ none->(φ' k).b ≠ b):=fun {cap2 m2 φ2 s2} w hc2 he hbk=>by
  obtain ⟨m',e1,w1⟩:=Xt4 d k0 p2 p3 p32 p31 p30 w;rw [he] at w1;obtain ⟨x1,x2,_⟩:=Xzc c s2;refine ⟨m',cap2,φ2,m.next,?_,?_⟩
  ·grind
  ·rw [hc];exact ⟨w1.ps,hc2,by rw [<- he]; exact hbk.congr x1 x2,hBk w1,hFb w1,hgb w1⟩
 delta Qgf H B S;simp only [X9,X3,Nat.zero_add,ldl0,eb];rw [hcv,Xp,hm1];delta Qig qz H T S Y A;obtain ⟨_,l1'⟩:=ldl k1;simp only [X4,X9,X3,Nat.zero_add,l1',p1,p2',p6,Xp];have st3:Xd 2 (pt m1.next 0 0) (.agg ⟨[I c.ln,I (wdC c 0).2]⟩) (m1.push (.cells Q3 0 0 false (some (2 * Q8 + 1))))=some m3:=st3;rw [st3,Xo];delta Qif H B qg A;obtain ⟨l0,_⟩:=ldl k3;have e0:bin .eql true true .int (I x.ind) (.int .i64 0)=some (.bool (decide (x.ind=0))):=X3x x.ind 0;have e1:bin .eql true true .int (I x.ind) (.int .i64 1)=some (.bool (decide (x.ind=1))):=X3x x.ind 1;simp only [X9,X3,Nat.zero_add,l0,e0];delta Qie C H Q D qa B Z qg qe A;rw [<- cC];have hroot:Root (s.at ⟨0,none⟩).X:=h.wt.root;by_cases hi0:x.ind=0
 ·rw [decide_eq_true hi0,X7];obtain ⟨m4,st4,k4⟩:=k3.midE 0 .nilFunc (by omega) rfl rfl (s':={ s.at ⟨0,none⟩ with blk:=0 }) (by show [blkV c 0,_,_]=[_,_,_]; unfold blkV; rw [if_pos rfl]) rfl rfl h.il;have st4:Xd 1 (pt P 12 0) .nilFunc m3=some m4:=by rw [<- cP]; exact st4
  obtain ⟨v',m5,cap5,φ5,s5,a1,a2,a3,rfl,a4,rfl⟩:=Xxr k4.ps (by rw [cws]; exact hcap) d;have a1:TA (d + 9) Q98 [pt P 0 0,pt c.C 0 0] m4=some (.tuple ⟨[]⟩,m5):=by rw [<- cP]; exact a1
  simp only [Xh,X9,X3,Nat.zero_add,st4,Xo,a1,X4];exact fin (k4.go a2 a3) (by rw [cws] at a4; omega) (by unfold X47; rw [if_pos hi0]) (Xy9 _ hroot rfl a2)
 ·rw [decide_eq_false hi0,X6];simp only [l0,X9,X3,Nat.zero_add,e1];have lblk:X8 false 1 (pt P 12 0) m3=some (blkV c s.blk):=by rw [<- cP]; exact k3.ps.mid 0 _ rfl
  have bad:∀ hnot:¬ (x.ind=1/\s.blk ≠ 0),∃ m' cap' φ' C,Q9s (d9 d) k0 (.bool false) (pt P 0 0) (pt c.C 0 0) (pt m1.next 0 0) p2 p3 p32 p31 p30 m3=Q1w (d9 d) k0 (pt C 0 0) p2 p3 p32 p31 p30 (pt P 0 0) m' /\
   PS ⟨C,P,O,L.b,slV L x.ws.length 3,x.ws,x.ln,s.X⟩ cap' m' φ' (X47 ⟨C,P,O,L.b,slV L x.ws.length 3,x.ws,x.ln,s.X⟩ (s.at ⟨0,none⟩) x.ind)/\cap' <= cap + x.ws.length + 3/\BlkOk (X47 ⟨C,P,O,L.b,slV L x.ws.length 3,x.ws,x.ln,s.X⟩ (s.at ⟨0,none⟩) x.ind) /\
   (∀ k,toX ⟨C,P,O,L.b,slV L x.ws.length 3,x.ws,x.ln,s.X⟩ (X47 ⟨C,P,O,L.b,slV L x.ws.length 3,x.ws,x.ln,s.X⟩ (s.at ⟨0,none⟩) x.ind) k ≠ none->B <= (φ' k).b)/\Fb B m m' /\
   (∀ b,Pr b->m'.get b=m.get b/\b < m'.next/\∀ k,toX ⟨C,P,O,L.b,slV L x.ws.length 3,x.ws,x.ln,s.X⟩ (X47 ⟨C,P,O,L.b,slV L x.ws.length 3,x.ws,x.ln,s.X⟩ (s.at ⟨0,none⟩) x.ind) k ≠ none->(φ' k).b ≠ b):=fun hnot=>by
   delta Q9s F C Q qc qa A;rw [X6];have lf:X8 true 2 (pt m1.next 0 0) m3=some (posV c.ln (wdC c 0).2):=k3.lds (o:=0) (cs:=[I c.ln,I (wdC c 0).2]) (List.mem_cons_self ..) (by show 0 + 2 <= 2; omega) rfl;obtain ⟨m4,a1,a2,a3⟩:=Xcl k3.ps (wdC c 0).2 70 (by decide) (d + 8);have a1:TA (d + 9) Q10 [pt c.C 0 0,posV c.ln (wdC c 0).2,.int .i64 70] m3=some (.tuple ⟨[]⟩,m4):=a1;simp only [lf,X3,a1,X4];exact fin (k3.go a2 a3) (by omega) (by unfold X47; rw [if_neg hi0,if_neg (show ¬ (x.ind=1/\(s.at ⟨0,none⟩).blk ≠ 0) from hnot)]; rfl) (h.bk.congr rfl rfl)
  by_cases hi1:x.ind=1
  ·rw [decide_eq_true hi1,X7];simp only [Xh,X9,X3,Nat.zero_add,lblk,Xse];by_cases hb0:s.blk=0
   ·rw [decide_eq_false (fun e=>e hb0)];exact bad (fun e=>e.2 hb0)
   ·rw [decide_eq_true hb0];delta Q9s F C Q qc qa A;rw [X7];obtain ⟨v',m5,cap5,φ5,s5,a1,a2,a3,rfl,a4,rfl⟩:=Xth k3.ps (by rw [cws]; exact hcap) (h.bk.congr rfl rfl) hb0 d;have a1:X52 (TA (d + 9)) (blkV c s.blk) [pt c.C 0 0] m3=some (.tuple ⟨[]⟩,m5):=a1;simp only [Xh,X9,X3,Nat.zero_add,lblk,a1,X4];exact fin (k3.go a2 a3) (by rw [cws] at a4; omega) (by unfold X47; rw [if_neg hi0,if_pos ⟨hi1,hb0⟩]) (Xs7 _ hroot (h.bk.congr rfl rfl) hb0 cX0 a2)
  ·rw [decide_eq_false hi1,X6];exact bad (fun e=>hi1 e.1)
end Go.Ab.Sh
end
