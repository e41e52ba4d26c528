/-
  What the functions of the program answer, at every text and every question. No conditions.
-/
import Derived.Test.YteognfejlpbmoaaGreatDoorA3
import Derived.Test.YteognfejlpbmoaaGreatDoorA1
import Derived.Test.YteognfejlpbmoaaGreatDoorA0
import Derived.Test.YteognfejlpbmoaaGreatDoorAb5
import Derived.Shelf.SlSortCmp.NoneTotal
set_option linter.unusedSimpArgs false
set_option linter.unusedVariables false
set_option maxRecDepth 100000
noncomputable section
namespace Go.Ab.Sh
open Go Go.Ab Go.Lib
variable {c:Cx} {m0 m:Mem} {φ0 φ:Phi} {s0 s s':PSt} {cap δ:Nat} {ts:List Tmp} {x:Option Rs} {Q:Value->Nat->Phi->PSt->Prop} {v:Value} {cu:Cu}
def cxN (x:Ln):Cx:=⟨0,0,0,0,.nilFunc,x.ws,x.ln,fun _=>none⟩
section
variable (c:Cx)
def nrm (c:Cx):Cx:=⟨0,0,0,0,.nilFunc,c.ws,c.ln,fun _=>none⟩
theorem Xnr:X27 c=X27 (nrm c):=rfl
theorem n_wd:wdC c=wdC (nrm c):=rfl
theorem Xba:Xf c=Xf (nrm c):=rfl
theorem n_is:isC c=isC (nrm c):=rfl
theorem Xyt:Xbm c=Xbm (nrm c):=rfl
theorem Xhr:X17 c=X17 (nrm c):=rfl
theorem Xxp:vrfC c=vrfC (nrm c):=rfl
theorem Xhe:oneC c=oneC (nrm c):=rfl
theorem X3l:Xb c=Xb (nrm c):=rfl
theorem Xcg:X1e c=X1e (nrm c):=rfl
theorem Xxd:hopC c=hopC (nrm c):=rfl
theorem Xmd:X35 c=X35 (nrm c):=rfl
theorem Xws:netC c=netC (nrm c):=rfl
theorem n_ge:geR c=geR (nrm c):=rfl
theorem n_le:leR c=leR (nrm c):=rfl
theorem n_pf:pfR c=pfR (nrm c):=rfl
theorem Xx0:X42 c=X42 (nrm c):=by unfold X42; rw [Xhe,n_pf,n_ge,n_le]
theorem Xxz:X7w c=X7w (nrm c):=by unfold X7w; rw [n_is,Xcg,Xmd,Xws]
theorem Xwt:X2g c=X2g (nrm c):=by unfold X2g; rw [n_is,X3l]
theorem n_me:meR c=meR (nrm c):=rfl
theorem n_ty:tyR c=tyR (nrm c):=rfl
theorem n_rm:rmR c=rmR (nrm c):=rfl
theorem Xla:X2e c=X2e (nrm c):=by unfold X2e; rw [Xhe,n_me,n_ty,n_rm]
theorem Xdg:badS c=badS (nrm c):=rfl
theorem Xjq:∀ f cu,X1y c f cu=X1y (nrm c) f cu
 | 0,cu=>rfl
 | f + 1,cu=>by
  rw [X4c,X4c];rw [show cmU c cu=cmU (nrm c) cu from rfl,Xjq f,Xnr c,Xba c]
theorem Xue (k:Key) (o:Nat):∀ f s,X28 c k o f s=X28 (nrm c) k o f s
 | 0,s=>rfl
 | f + 1,s=>by
  unfold X28;dsimp only;rw [X3l c,Xnr c,Xue k o f]
theorem Xw7:X77 c=X77 (nrm c):=by unfold X77; rw [Xxp,Xcg,Xmd,n_is,Xws,Xxd,X3l]
theorem Xsw:X4b c=X4b (nrm c):=by unfold X4b; rw [Xhe,Xxp,X3l]
theorem n_ip (s:PSt):ipC c s=ipC (nrm c) s:=by
 unfold ipC;dsimp only;simp only [Xjq c];rw [Xba c,Xw7 c,Xhr c,Xx0 c,Xhe c,Xyt c,Xcg c,Xdg c];rfl
theorem Xzg (s:PSt):topC c s=topC (nrm c) s:=by
 unfold topC;dsimp only;rw [n_ip c];rw [Xba c,Xhr c,Xhe c,X3l c,Xsw c,Xdg c]
theorem Xvf (s:PSt):X6m c s=X6m (nrm c) s:=by
 unfold X6m;rw [Xba c,Xhr c,Xcg c,Xmd c,Xdg c,Xhe c,X3l c,n_wd c];rfl
theorem Xyr (s:PSt):Xcf c s=Xcf (nrm c) s:=by
 unfold Xcf;rw [Xhe c,n_is c,X3l c,Xxz c,Xwt c]
theorem Xze (s:PSt) (k:Key) (b:Nat):setC c s k b=setC (nrm c) s k b:=by
 unfold setC;dsimp only;simp only [Xjq c,Xue c];rw [Xba c,X3l c,n_is c,Xxd c,Xdg c];rfl
theorem X10b (s:PSt):askC c s=askC (nrm c) s:=by
 unfold askC;dsimp only;simp only [Xze c];rw [Xba c,Xhr c,X3l c,Xdg c]
theorem Xyk (s:PSt):Xdh c s=Xdh (nrm c) s:=by
 unfold Xdh;rw [Xba c,Xcg c,Xla c,Xdg c]
theorem n_nb (s:PSt):X2s c s=X2s (nrm c) s:=by
 unfold X2s;rw [Xcg c,Xhe c,X3l c,Xhr c]
theorem Xzy (s:PSt):bgpC c s=bgpC (nrm c) s:=by
 unfold bgpC;dsimp only;simp only [n_nb c];rw [Xba c,Xcg c,Xmd c,Xws c,Xla c,Xdg c]
theorem Xy6 (s:PSt) (ind:Nat):X47 c s ind=X47 (nrm c) s ind:=by
 unfold X47 X4x;simp only [Xzg c,Xvf c,Xyr c,X10b c,Xyk c,Xzy c];unfold endL;rw [Xnr c,n_wd c]
end
def X2m (x:Ln) (s:PSt):PSt:=X47 (cxN x) (s.at ⟨0,none⟩) x.ind
def X3h:List Ln->PSt->Except (Nat × Nat × Int) PSt
 | [],s=>.ok s
 | x :: l,s=>match (X2m x s).cu.er with | some e=>.error (x.ln,e.1,e.2) | none=>X3h l (X2m x s)
def totL:List Ln->Nat
 | []=>0
 | x :: l=>x.ws.length + 3 + totL l
abbrev zD:Value:=.agg ⟨Qi⟩
theorem obP (a y z:Value) (m:Mem):(ob (ob (some y) fun v=>ob (ob (some z) fun v=>ob (some [a]) fun l=>some (v :: l)) fun l=>some (v :: l)) fun l=>some (X1i l,m))=some (.tuple ⟨[y,z,a]⟩,m):=Eq.trans rfl rfl
structure Ans (m:Mem) (p2 p3:Nat):Prop where
 l2:p2 < m.next
 l3:p3 < m.next
 ne:p2 ≠ p3
 g2:∃ cs ty,m.get p2=some (.cells cs 0 0 false ty)/\cs.length=12
 g3:∃ cs ty,m.get p3=some (.cells cs 0 0 false ty)/\cs.length=2
theorem Xg3 {p2 p3 B:Nat} (h:Ans m p2 p3) (hB2:B <= p2) (hB3:B <= p3) (dv:List Value) (hd:dv.length=12) (hd1:dv.all one=true) (a b:Nat):∃ m1 m2,Xd 12 (pt p2 0 0) (.agg ⟨dv⟩) m=some m1/\Xd 2 (pt p3 0 0) (posV a b) m1=some m2/\X8 true 12 (pt p2 0 0) m2=some (.agg ⟨dv⟩)/\X8 true 2 (pt p3 0 0) m2=some (posV a b)/\Fb B m m2 /\
  (∀ b',b' ≠ p2->m1.get b'=m.get b')/\(∀ b',b' ≠ p2->b' ≠ p3->m2.get b'=m.get b'):=by
 obtain ⟨cs2,ty2,g2,n2⟩:=h.g2;obtain ⟨cs3,ty3,g3,n3⟩:=h.g3;obtain ⟨m1,k1,k2⟩:=X1u (o:=0) (n:=12) (v:=.agg ⟨dv⟩) (c':=dv) g2 hd (Nat.zero_le _) (by omega) hd1 (by
  show [] ++ dv ++ cs2.drop (0 + 12)=dv;rw [List.drop_eq_nil_of_le (by omega)]; simp)
 have g3':m1.get p3=some (.cells cs3 0 0 false ty3):=by rw [k2.get,Mem.get_put,if_neg h.ne]; exact g3
 obtain ⟨m2,q1,q2⟩:=X1u (o:=0) (n:=2) (v:=posV a b) (c':=[I a,I b]) g3' rfl (Nat.zero_le _) (by omega) rfl (by
  show [] ++ [I a,I b] ++ cs3.drop (0 + 2)=_;rw [List.drop_eq_nil_of_le (by omega)]; rfl)
 refine ⟨m1,m2,k1,q1,?_,?_,(((Fb.refl B m).put _ hB2).meq k2).trans (((Fb.refl B m1).put _ hB3).meq q2),fun b' h2=>by rw [k2.get,Mem.get_put,if_neg (Ne.symm h2)],fun b' h2 h3=>by rw [q2.get,Mem.get_put,if_neg (Ne.symm h3),k2.get,Mem.get_put,if_neg (Ne.symm h2)]⟩
 ·exact Xv (by rw [q2.get,Mem.get_put,if_neg (Ne.symm h.ne),k2.get,Mem.get_put,if_pos rfl]) (by omega) (by rw [List.drop_zero,List.take_of_length_le (by omega)])
 ·exact Xv (by rw [q2.get,Mem.get_put,if_pos rfl]) (by show 0 + 2 <= 2; omega) rfl
theorem Xhf:∀ (l:List (Ln × Lc)) (i:Nat) (x:Ln × Lc),l[i]?=some x->∃ t,(X6b l).drop (i * 2)=I x.1.ind :: slV x.2 x.1.ws.length 3 :: t
 | [],i,x,h=>by simp at h
 | a :: l,0,x,h=>by cases h; exact ⟨X6b l,rfl⟩
 | a :: l,i + 1,x,h=>by
  obtain ⟨t,ht⟩:=Xhf l i x h;refine ⟨t,?_⟩;rw [<- ht];unfold X6b;rw [List.flatMap_cons,show (i + 1) * 2=i * 2 + 2 by omega];rfl
theorem Xev (d:Nat) {B P O p2 p3:Nat} (L:Lc) (l:List (Ln × Lc)) (hl:l.length <= 4194304) (hw:∀ x ∈ l,x.1.ws.length <= 65536/\∀ w ∈ x.1.ws,w.1.length <= 65536/\w.2 <= 65536) (hB2:B <= p2) (hB3:B <= p3):∀ (n i f:Nat) (cap:Nat) (m:Mem) (φ:Phi) (s:PSt),i + n=l.length->n < f->B <= m.next ->
  LI B P O cap m φ s->OutAt 0 m L l->Ans m p2 p3->cap + totL ((l.drop i).map (·.1)) <= 8589934592 ->
  (∀ b,(b=p2\/b=p3\/(l ≠ []/\b=L.b)\/∃ x ∈ l,b=x.2.b)->∀ k,bX P O s k ≠ none->(φ k).b ≠ b) ->
  (∀ e,X3h ((l.drop i).map (·.1)) s=.error e->(e.2.2 ≠ 0/\e.2.2 ≠ 5)/\∃ m',Qj (d9 d) f (I i) (I l.length) (slV L l.length 2) (pt P 0 0) (pt p2 0 0) (pt p3 0 0) m=some (.tuple ⟨[zD,posV e.1 e.2.1,.int .i64 e.2.2]⟩,m')/\Fb B m m') /\
  (∀ S,X3h ((l.drop i).map (·.1)) s=.ok S->∃ m' cap' φ',Qj (d9 d) f (I i) (I l.length) (slV L l.length 2) (pt P 0 0) (pt p2 0 0) (pt p3 0 0) m=Qau (d9 d) (pt P 0 0) (pt p2 0 0) (pt p3 0 0) m'/\Fb B m m'/\LI B P O cap' m' φ' S/\Ans m' p2 p3/\cap' <= cap + totL ((l.drop i).map (·.1))/\(∀ k,bX P O S k ≠ none->(φ' k).b ≠ p2/\(φ' k).b ≠ p3))
 | 0,i,f + 1,cap,m,φ,s,e,hf,hBm,hLI,hO,hA,hcap,hpr=>by
  have:i=l.length:=by omega
  subst this;have e1:Qj (d9 d) (f + 1) (I l.length) (I l.length) (slV L l.length 2) (pt P 0 0) (pt p2 0 0) (pt p3 0 0) m=Qau (d9 d) (pt P 0 0) (pt p2 0 0) (pt p3 0 0) m:=by
   unfold Qj;delta B qh;simp only [Q1d,X3,Int.lt_irrefl,decide_false];delta Qgg Q;rw [X6]
  rw [List.drop_length];refine ⟨fun e he=>(by cases he),fun S hS=>?_⟩;cases hS;exact ⟨m,cap,φ,e1,.refl _ _,hLI,hA,Nat.le_add_right _ _,fun k hk=>⟨hpr p2 (.inl rfl) k hk,hpr p3 (.inr (.inl rfl)) k hk⟩⟩
 | n + 1,i,f + 1,cap,m,φ,s,e,hf,hBm,hLI,hO,hA,hcap,hpr=>by
  have hi:i < l.length:=by omega
  have hne:l ≠ []:=fun e=>by rw [e] at hi; exact absurd hi (Nat.not_lt_zero _)
  have hlt:decide (((i:Nat):Int) < ((l.length:Nat):Int))=true:=decide_eq_true (by omega);have hd:l.drop i=l[i] :: l.drop (i + 1):=List.drop_eq_getElem_cons hi;have hmem:l[i] ∈ l:=List.getElem_mem hi;generalize hx:l[i]=x at hd hmem;have hgx:l[i]?=some x:=by rw [<- hx]; exact List.getElem?_eq_getElem hi
  obtain ⟨_,oL,oR,tyo,oG⟩:=hO.out hne;obtain ⟨⟨x1,_,x3,x4,tyx,x5⟩,_⟩:=hO.ls x hmem;obtain ⟨hw1,hw2⟩:=hw x hmem;rw [hd,List.map_cons] at hcap;have hcap:cap + (x.1.ws.length + 3 + totL ((l.drop (i + 1)).map (·.1))) <= 8589934592:=hcap
  -- the line's own copy
  obtain ⟨t,ht⟩:=Xhf l i x hgx;have ix:Xa 2 (slV L l.length 2) (I i)=some (pt L.b (i * 2) L.ver):=X3e L oR _ 2 i .i64 hi;have lg:X8 true 2 (pt L.b (i * 2) L.ver) m=some (.agg ⟨[I x.1.ind,slV x.2 x.1.ws.length 3]⟩):=Xv oG (by rw [Xe5]; omega) (by rw [ht]; rfl);have hwz:x.1.ws.length ≠ 0:=fun e=>x1 (List.eq_nil_of_length_eq_zero e);have hsl:slV x.2 x.1.ws.length 3=.slice (some ⟨x.2.b,0,some 3⟩) x.1.ws.length (2 * x.2.ver + x.2.r):=if_neg hwz;obtain ⟨m1,n1,n2,n3,n4⟩:=X2c [] m (some (2 * Q45 + 1)) Q8x (v:=.agg ⟨[I x.1.ind,slV x.2 x.1.ws.length 3]⟩) (n:=2) rfl rfl (by show ([I x.1.ind,slV x.2 x.1.ws.length 3]:List Value).all one=true; rw [hsl]; rfl);have n1:Xd 2 (pt m.next 0 0) (.agg ⟨[I x.1.ind,slV x.2 x.1.ws.length 3]⟩) (m.push (.cells Q8x 0 0 false (some (2 * Q45 + 1))))=some m1:=n1;have hn1:m1.next=m.next + 1:=n3;have hg1:∀ b,b < m.next->m1.get b=m.get b:=fun b hb=>n2.get b hb (by simp);have F1:Fb B m m1:=n2.toFb hBm;have hLI1:LI B P O cap m1 φ s:={ hLI with nr:=hLI.nr.same (by omega) fun k hk=>hg1 _ (hLI.nr.hi k hk) }
  let Pr:Nat->Prop:=fun b=>b=m.next\/b=p2\/b=p3\/b=L.b\/∃ y ∈ l,b=y.2.b;have hPr:∀ b,Pr b->b < m1.next/\∀ k,bX P O s k ≠ none->(φ k).b ≠ b:=fun b hb=>by
   rcases hb with rfl | rfl | rfl | rfl | ⟨y,hy,rfl⟩
   ·exact ⟨by omega,fun k hk=>Nat.ne_of_lt (hLI.nr.hi k hk)⟩
   ·exact ⟨by have:=hA.l2; omega,hpr _ (.inl rfl)⟩
   ·exact ⟨by have:=hA.l3; omega,hpr _ (.inr (.inl rfl))⟩
   ·exact ⟨by omega,hpr _ (.inr (.inr (.inl ⟨hne,rfl⟩)))⟩
   ·exact ⟨by have:=(hO.ls y hy).1.2.2.1; omega,hpr _ (.inr (.inr (.inr ⟨y,hy,rfl⟩)))⟩
  obtain ⟨m2,cap2,φ2,C,q1,q2,q3,q4,q5,q6,q7⟩:=Xx6 d (Qj (d9 d) f) (pt p2 0 0) (pt p3 0 0) (I i) (I l.length) (slV L l.length 2) hLI1 (by omega) Pr hPr x.1 x.2 x1 x4 ⟨tyx,by rw [hg1 _ x3]; exact x5⟩ (.inr (.inr (.inr (.inr ⟨x,hmem,rfl⟩)))) (.inl rfl) ⟨_,n4⟩ hw1 hw2 (by omega);rw [Xy6] at q2 q4 q5 q7;have hst:X47 (nrm ⟨C,P,O,x.2.b,slV x.2 x.1.ws.length 3,x.1.ws,x.1.ln,s.X⟩) (s.at ⟨0,none⟩) x.1.ind=X2m x.1 s:=rfl;rw [hst] at q2 q4 q5 q7;have e0:Qj (d9 d) (f + 1) (I i) (I l.length) (slV L l.length 2) (pt P 0 0) (pt p2 0 0) (pt p3 0 0) m=Q1w (d9 d) (Qj (d9 d) f) (pt C 0 0) (pt p2 0 0) (pt p3 0 0) (I i) (I l.length) (slV L l.length 2) (pt P 0 0) m2:=by
   refine Eq.trans ?_ q1;unfold Qj;delta B qh;simp only [Q1d,X3,hlt];delta Qgg Q;rw [X7];delta Qih qc T S Y;simp only [ix,lg,X3,Xp,n1,Xo,X4]
  have F2:Fb B m m2:=F1.trans q6;have hA2:Ans m2 p2 p3:={
   l2:=(q7 p2 (.inr (.inl rfl))).2.1
   l3:=(q7 p3 (.inr (.inr (.inl rfl)))).2.1
   ne:=hA.ne
   g2:=by rw [(q7 p2 (.inr (.inl rfl))).1,hg1 _ hA.l2]; exact hA.g2
   g3:=by rw [(q7 p3 (.inr (.inr (.inl rfl)))).1,hg1 _ hA.l3]; exact hA.g3 }
  have le:X8 false 1 (pt C 4 0) m2=some (I (X2m x.1 s).cu.e):=q2.ld rfl;rw [hd,List.map_cons,e0];unfold X3h;cases her:(X2m x.1 s).cu.er with
  | some er =>
   refine ⟨fun e he=>?_,fun S hS=>(by cases hS)⟩;cases he;have hee:(X2m x.1 s).cu.e=er.2:=by unfold Cu.e; rw [her]
   have hne0:er.2 ≠ 0:=q2.ee er her;have hli:(X2m x.1 s).cu.line ⟨C,P,O,x.2.b,slV x.2 x.1.ws.length 3,x.1.ws,x.1.ln,s.X⟩=x.1.ln:=by unfold Cu.line; rw [her]
   have hco:(X2m x.1 s).cu.col=er.1:=by unfold Cu.col; rw [her]
   have lpos:∀ m3,m3.get C=m2.get C->X8 true 2 (pt C 2 0) m3=some (posV x.1.ln er.1)/\X8 false 1 (pt C 4 0) m3=some (.int .i64 er.2):=fun m3 hm=>by
    obtain ⟨tyc,hcg⟩:=q2.nr.at' [1] _ (Xje _ _);rw [q2.pC] at hcg;have hcg:m2.get C=some (.cells (cells φ2 [1] (cc ⟨C,P,O,x.2.b,slV x.2 x.1.ws.length 3,x.1.ws,x.1.ln,s.X⟩ (X2m x.1 s).cu)) 0 0 false tyc):=hcg;have hcl:cells φ2 [1] (cc ⟨C,P,O,x.2.b,slV x.2 x.1.ws.length 3,x.1.ws,x.1.ln,s.X⟩ (X2m x.1 s).cu)=[slV x.2 x.1.ws.length 3,I (X2m x.1 s).cu.pl,I x.1.ln,I er.1,I er.2]:=by
     unfold cc;rw [hli,hco,hee];exact X8q φ2 [1] [slV x.2 x.1.ws.length 3,I (X2m x.1 s).cu.pl,I x.1.ln,I er.1,I er.2]
    rw [hcl] at hcg;exact ⟨Xv (by rw [hm]; exact hcg) (by show 2 + 2 <= 5; omega) rfl,X12 (by rw [hm]; exact hcg) rfl⟩
   have hC2:C ≠ p2:=fun e=>(q7 p2 (.inr (.inl rfl))).2.2 [1] (by rw [Xje]; simp) (by rw [q2.pC]; exact e);have hC3:C ≠ p3:=fun e=>(q7 p3 (.inr (.inr (.inl rfl)))).2.2 [1] (by rw [Xje]; simp) (by rw [q2.pC]; exact e);obtain ⟨m3,m4,a1,a2,a3,a4,a5,a6,a7⟩:=Xg3 hA2 hB2 hB3 Qi rfl rfl x.1.ln er.1;obtain ⟨b1,b2⟩:=lpos m2 rfl;obtain ⟨b3,b4⟩:=lpos m3 (a6 C hC2);obtain ⟨b5,b6⟩:=lpos m4 (a7 C hC2 hC3);have en:bin .neq true true .int (.int .i64 er.2) (.int .i64 0)=some (.bool true):=by rw [Q9y,decide_eq_true hne0]
   have eb:Xg Qi [(0,1),(1,1),(2,1),(3,1),(4,1),(5,1),(6,1),(7,1),(8,1),(9,1),(10,1),(11,1)] []=some zD:=Eq.trans rfl rfl;have ag:∀ mm,again (pur (some (posV x.1.ln er.1)) mm) (posV x.1.ln er.1)=true:=fun mm=>by
    show vsame 8 (posV x.1.ln er.1) (posV x.1.ln er.1)=true;simp [vsame,vsame.vsames]
   refine ⟨⟨hne0,q2.e5 er her⟩,m4,?_,F2.trans a5⟩;delta Q1w L qj D qi qc P qr qa B T X A;simp only [Xh,X9,X3,Nat.zero_add,b2,en,X7,eb,b1,a1,Xo,b3,b4,ag,X1a,Bool.and_true,Bool.true_and,Xr,a2,b6,a3,a4];exact obP _ _ _ _
  | none =>
   have hee:(X2m x.1 s).cu.e=0:=by unfold Cu.e; rw [her]
   rw [hee] at le;have en:bin .neq true true .int (I 0) (.int .i64 0)=some (.bool false):=by rw [Q9y]; rfl
   have ei:bin .add true true .int (I i) (.int .i64 1)=some (I (i + 1:Nat)):=by
    rw [Q35];have:((i:Nat):Int) + 1=((i + 1:Nat):Int):=by omega
    rw [this,wrap64 _ (by omega)]
   have e15:Q1w (d9 d) (Qj (d9 d) f) (pt C 0 0) (pt p2 0 0) (pt p3 0 0) (I i) (I l.length) (slV L l.length 2) (pt P 0 0) m2=Qj (d9 d) f (I (i + 1:Nat)) (I l.length) (slV L l.length 2) (pt P 0 0) (pt p2 0 0) (pt p3 0 0) m2:=by
    delta Q1w L qj D qi qc P qr qa B T X A;have le:X8 false 1 (pt C 4 0) m2=some (I 0):=le;simp only [Xh,X9,X3,Nat.zero_add,le,en,X6,ei]
   rw [e15];have hw3:=q2.wt;have hdrop:(toX ⟨C,P,O,x.2.b,slV x.2 x.1.ws.length 3,x.1.ws,x.1.ln,s.X⟩ (X2m x.1 s)).set [1] none=bX P O (X2m x.1 s):=by
    rw [Xw5];funext k;unfold NX.set;by_cases hk:k=[1]
    ·rw [if_pos hk,hk,Xip hw3 (by decide)]; exact hw3.no1.symm
    ·rw [if_neg hk,if_neg hk]
   have hsub:∀ k,bX P O (X2m x.1 s) k ≠ none->toX ⟨C,P,O,x.2.b,slV x.2 x.1.ws.length 3,x.1.ws,x.1.ln,s.X⟩ (X2m x.1 s) k ≠ none:=fun k hk=>by
    rw [<- hdrop] at hk;by_cases e:k=[1]
    ·rw [e,NX.set_eq] at hk; exact absurd rfl hk
    ·rwa [NX.set_ne _ _ e] at hk
   have hLI2:LI B P O cap2 m2 φ2 (X2m x.1 s):={
    nr:=by
     rw [<- hdrop];exact q2.nr.dropK (fun l' j n' sz hl' hj=>by
      rw [Xje] at hl';cases hl';unfold cc at hj;have:∀ (us:List Value),(us.map Cl.v)[j]? ≠ some (.s n' sz):=fun us h=>by
       rw [List.getElem?_map] at h;cases hq:us[j]? with
       | none=>rw [hq] at h; cases h
       | some y=>rw [hq] at h; cases h
      exact this [slV x.2 x.1.ws.length 3,I (X2m x.1 s).cu.pl,I ((X2m x.1 s).cu.line ⟨C,P,O,x.2.b,slV x.2 x.1.ws.length 3,x.1.ws,x.1.ln,s.X⟩),I (X2m x.1 s).cu.col,I (X2m x.1 s).cu.e] hj) (fun l'=>by
      rw [Xw5,NX.set_ne _ _ (by decide)];exact Xv0 hw3 l')
    pP:=q2.pP
    pO:=q2.pO
    wt:=hw3
    il:=q2.ok.il
    hB:=fun k hk=>q5 k (hsub k hk)
    bk:=q4 }
   have hO2:OutAt 0 m2 L l:={
    out:=fun q=>by
     obtain ⟨a,b,c',ty,g⟩:=hO.out q;have:=q7 L.b (.inr (.inr (.inr (.inl rfl))));exact ⟨a,this.2.1,c',ty,by rw [this.1,hg1 _ b]; exact g⟩
    ls:=fun y hy=>by
     obtain ⟨⟨a1,a2,a3,a4,ty,a5⟩,a6⟩:=hO.ls y hy;have:=q7 y.2.b (.inr (.inr (.inr (.inr ⟨y,hy,rfl⟩))));exact ⟨⟨a1,a2,this.2.1,a4,ty,by rw [this.1,hg1 _ a3]; exact a5⟩,a6⟩ }
   have ih:=Xev d L l hl hw hB2 hB3 n (i + 1) f cap2 m2 φ2 (X2m x.1 s) (by omega) (by omega) (by have:=q6.next; omega) hLI2 hO2 hA2 (by omega) (fun b hb k hk=>by
    have hb':Pr b:=by
     rcases hb with rfl | rfl | ⟨_,rfl⟩ | h
     ·exact .inr (.inl rfl)
     ·exact .inr (.inr (.inl rfl))
     ·exact .inr (.inr (.inr (.inl rfl)))
     ·exact .inr (.inr (.inr (.inr h)))
    exact (q7 b hb').2.2 k (hsub k hk))
   obtain ⟨i1,i2⟩:=ih;refine ⟨fun e he=>?_,fun S hS=>?_⟩
   ·obtain ⟨hn,m',a1,a2⟩:=i1 e he;exact ⟨hn,m',a1,F2.trans a2⟩
   ·obtain ⟨m',cap',φ',a1,a2,a3,a4,a5,a6⟩:=i2 S hS;refine ⟨m',cap',φ',a1,F2.trans a2,a3,a4,?_,a6⟩;show cap' <= cap + (x.1.ws.length + 3 + totL ((l.drop (i + 1)).map (·.1)));omega
end Go.Ab.Sh
namespace Go.Ab.Sh
open Go Go.Ab
inductive Tn where
 | v (x:Value)
 | l (sz n:Nat) (ts:List Tn)
inductive Rd (B:Nat) (m:Mem):Tn->Value->Prop where
 | v (x:Value):Rd B m (.v x) x
 | nil (sz:Nat):Rd B m (.l sz 0 []) (.slice none 0 0)
 | l (L:Lc) (n sz:Nat) (ts:List Tn) (cs:List Value) (ty:Option Nat) (hn:n ≠ 0) (hr:L.r < 2) (hlo:B <= L.b) (hb:L.b < m.next) (hg:m.get L.b=some (.cells cs L.ver 0 false ty)) (hl:cs.length=n * sz) (ht:ts.length=n * sz) (h:∀ (i:Nat) (t:Tn) (c:Value),ts[i]?=some t->cs[i]?=some c->Rd B m t c):Rd B m (.l sz n ts) (slV L n sz)
def RdL (B:Nat) (m:Mem) (ts:List Tn) (cs:List Value):Prop:=cs.length=ts.length/\∀ (i:Nat) (t:Tn) (c:Value),ts[i]?=some t->cs[i]?=some c->Rd B m t c
theorem Rd.fr {B:Nat} {m m':Mem} (f:Fr [] m m'):∀ {t:Tn} {v:Value},Rd B m t v->Rd B m' t v
 | _,_,.v x=>.v x
 | _,_,.nil sz=>.nil sz
 | _,_,.l L n sz ts cs ty hn hr hlo hb hg hl ht h=>.l L n sz ts cs ty hn hr hlo (Nat.lt_of_lt_of_le hb f.next) (by rw [f.get _ hb (by simp)]; exact hg) hl ht fun i t c hi hc=>(h i t c hi hc).fr f
theorem RdL.fr {B:Nat} {m m':Mem} (f:Fr [] m m') {ts:List Tn} {cs:List Value} (h:RdL B m ts cs):RdL B m' ts cs:=⟨h.1,fun i t c hi hc=>(h.2 i t c hi hc).fr f⟩
theorem RdL.none {B:Nat} {m:Mem} (m':Mem) {ts:List Tn} {cs:List Value} (h:RdL B m ts cs) (hr:∀ y ∈ cs,refs B 6 y=true):RdL B m' ts cs:=⟨h.1,fun i t c hi hc=>by
 have h1:=h.2 i t c hi hc;have h2:=hr c (List.mem_of_getElem? hc);cases h1 with
 | v=>exact .v _
 | nil sz=>exact .nil sz
 | l L n sz ts cs ty hn hr hlo hb hg hl ht h =>
  exfalso;have e:slV L n sz=.slice (some ⟨L.b,0,some sz⟩) n (2 * L.ver + L.r):=if_neg hn;rw [e] at h2;have:Nat.blt L.b B=true:=h2;have:=Nat.blt_eq.mp this;omega⟩
theorem Rd.same {B:Nat} {m m':Mem} (hn:m.next <= m'.next) (hg:∀ b,m'.get b=m.get b):∀ {t:Tn} {v:Value},Rd B m t v->Rd B m' t v
 | _,_,.v x=>.v x
 | _,_,.nil sz=>.nil sz
 | _,_,.l L n sz ts cs ty h0 hr hlo hb h1 hl ht h=>.l L n sz ts cs ty h0 hr hlo (Nat.lt_of_lt_of_le hb hn) (by rw [hg]; exact h1) hl ht fun i t c hi hc=>(h i t c hi hc).same hn hg
def tnC (rec:Key->List Tn) (k:Key) (o:Nat):Cl->Tn
 | .v y=>.v y
 | .s n sz=>.l sz n (if n=0 then [] else rec (o :: k))
def tnK (X:NX):Nat->Key->List Tn
 | 0,_=>[]
 | d + 1,k=>match X k with | some (.c l)=>l.mapIdx (tnC (tnK X d) k) | _=>[]
def hT:Nat->Nat
 | 0=>3
 | 3=>1
 | 7=>1
 | 9=>2
 | 10=>1
 | 12=>2
 | 13=>1
 | 14=>1
 | 16=>1
 | _=>0
theorem Xxi {r r' o:Nat} (h:fdAt r o=some (.l r')):hT r' < hT r:=by
 have hm:Fd.l r' ∈ rowT r:=List.mem_of_getElem? h;have:∀ r,r < 19->∀ x ∈ rowT r,(match x with | .l r'=>decide (hT r' < hT r) | _=>true)=true:=by decide +kernel
 by_cases hr:r < 19
 ·simpa using this r hr _ hm
 ·have e:rowT r=[.f]:=by
   unfold rowT;split <;> first | rfl | (exfalso; omega)
  rw [e] at hm;simp at hm
theorem Xtz {X:NX} {k:Key} {l:List Cl} (h:X k=some (.c l)) (d:Nat):tnK X (d + 1) k=l.mapIdx (tnC (tnK X d) k):=by
 show (match X k with | some (.c l)=>l.mapIdx (tnC (tnK X d) k) | _=>[])=_
 rw [h]
theorem rd_K {B:Nat} {X:NX} {φ:Phi} {m:Mem} (good:Key->Prop) (hg:∀ k l,good k->X k=some (.c l)->(φ k).r < 2/\B <= (φ k).b/\(φ k).b < m.next/\∃ ty,m.get (φ k).b=some (.cells (cells φ k l) (φ k).ver 0 false ty)) (hcl:∀ o k,good k->good (o :: k))
  (how:∀ k l o n sz,X k=some (.c l)->k ≠ []->l[o]?=some (.s n sz)->n ≠ 0->∃ l',X (o :: k)=some (.c l')/\l'.length=n * sz) (wt:WT X) :
  ∀ (d:Nat) (k:Key) (l:List Cl) (r:Nat),X k=some (.c l)->kt k=some r->hT r <= d->∀ o c,good (o :: k)->l[o]?=some c->Rd B m (tnC (tnK X d) k o c) (cv φ k o c)
 | d,k,l,r,hX,hr,hd,o,.v y,hk,ho=>.v y
 | d,k,l,r,hX,hr,hd,o,.s n sz,hk,ho=>by
  have hlt:o < l.length:=(List.getElem?_eq_some_iff.mp ho).1;obtain ⟨c',q1,q2⟩:=wt.get hX hr hlt;rw [ho] at q1;cases q1;show Rd B m (.l sz n (if n=0 then [] else tnK X d (o :: k))) (slV (φ (o :: k)) n sz);by_cases hn:n=0
  ·subst hn;rw [if_pos rfl];exact .nil sz
  ·rw [if_neg hn];have hk0:k ≠ []:=fun e=>by rw [e] at hr; cases hr
   obtain ⟨l',x1,x2⟩:=how k l o n sz hX hk0 ho hn;obtain ⟨r',f1⟩:∃ r',fdAt r o=some (.l r'):=by
    cases hf:fdAt r o with
    | none=>rw [hf] at q2; exact False.elim q2
    | some g=>rw [hf] at q2; cases g <;> first | exact ⟨_,rfl⟩ | exact False.elim q2
   have hh:=Xxi f1;obtain ⟨d',rfl⟩:∃ d',d=d' + 1:=⟨d - 1,by omega⟩
   obtain ⟨g1,g0,g2,ty,g3⟩:=hg _ l' hk x1;rw [Xtz x1];refine .l _ n sz _ _ ty hn g1 g0 g2 g3 (by rw [X10]; exact x2) (by rw [List.length_mapIdx]; exact x2) fun i t c' hi hc'=>?_;rw [List.getElem?_mapIdx] at hi;cases hc:l'[i]? with
   | none=>rw [hc] at hi; cases hi
   | some c =>
    rw [hc] at hi;cases hi;rw [Xm,hc] at hc';cases hc';exact rd_K good hg hcl how wt d' (o :: k) l' r' x1 (X2d hr f1) (by omega) i c (hcl i _ hk) hc
end Go.Ab.Sh
namespace Go.Ab
open Go Go.Sort Go.Proofs
variable {B0 b:Nat} {C C':Array Value} {bd:Code} {cs cs':List Value} {ety:TypeId} {fn:Func} {m:Mem} {o:Option Value} {ro:Bool} {ty:Option Nat} {φ:Pmap}
variable {P:Program} {W0:World}
theorem Xww {w w':World} {pl:Pl} {ver fro:Nat} (hR:Rel B0 φ m w) (hb:φ b=some pl) (hro:pl.ro=false) (hg:m.get b=some (.cells cs ver fro ro ty)) {lo hi:Nat} (h1:w.heap[pl.blk]?=some (.cells C ety (lo,hi))) (h2:w'.heap[pl.blk]?=some (.cells C' ety (lo,hi))) (hs:C'.size=C.size) (hl:cs'.length=cs.length) (hc:∀ i v,pl.lo <= i->cs'[i]?=some v->∃ cv,C'[pl.cb + (i - pl.lo)]?=some cv/\VRel φ v cv) (hsz:w.heap.size <= w'.heap.size) (hold:∀ B,B < w.heap.size->B ≠ pl.blk->w'.heap[B]?=w.heap[B]?) (ho:w'.os=w.os) (ht:w'.tape=w.tape) (hout:w'.output=w.output) :
  After B0 φ m w (.tuple ⟨[]⟩) (m.put b (.cells cs' ver fro ro ty)) (.tuple ⟨[]⟩) w':=by
 obtain ⟨hlt,o,e0,hrel⟩:=hR.blocks b pl hb;rw [hg] at e0;cases e0;obtain ⟨r1,r2,r3,C0,ty0,lo0,hi0,r4,r5,r6,r7,r8⟩:=hrel;rw [h1] at r4;cases r4;have e2:(m.put b (.cells cs' ver fro ro ty)).next=m.next:=Mem.next_put _ _ _;refine ⟨φ,{ blocks:=fun k q hq=>?_,inj:=hR.inj,base:=hR.base,size:=Nat.le_trans hR.size hsz,fresh:=fun k hk=>?_ },.tuple _ _ .nil,{
  le:=fun k q hq=>⟨q,hq,.inl rfl⟩
  next:=Nat.le_of_eq e2.symm
  low:=by rw [Mem.low_put]; exact Nat.min_le_left _ _
  same:=fun k hk hn=>?_
  os:=ho
  tape:=ht
  output:=hout
  size:=hsz
  frame:=fun B hB h=>hold B hB fun e=>h b pl hb hro e.symm
  img:=fun k q hq hr=>.inl ⟨k,q,hq,hr,rfl⟩
  un:=fun k hk hn=>?_ }⟩
 ·by_cases e:k=b
  ·subst e;rw [hb] at hq;cases hq;refine ⟨by rw [e2]; exact hlt,_,by rw [Mem.get_put,if_pos rfl],?_⟩;exact ⟨r1,r2,by rw [hl]; exact r3,C',ety,lo,hi,h2,hs.trans r5,hc,r7,fun t ht=>by rw [hl]; exact r8 t ht⟩
  ·obtain ⟨k1,o2,k2,k3⟩:=hR.blocks k q hq;refine ⟨by rw [e2]; exact k1,o2,by rw [Mem.get_put,if_neg (Ne.symm e)]; exact k2,?_⟩;exact BRel.of_heap (hold q.blk k3.there fun hbk=>e (hR.inj b k pl q hb hq hro hbk.symm).symm) k3
 ·rw [e2] at hk;rw [Mem.get_put,if_neg (by omega)];exact hR.fresh k hk
 ·rw [Mem.low_put] at hk;have:k ≠ b:=by omega
  exact ⟨by rw [Mem.get_put,if_neg (Ne.symm this)],rfl⟩
 ·have:k ≠ b:=fun e=>by rw [e,hb] at hn; cases hn
  exact ⟨hn,by rw [Mem.get_put,if_neg (Ne.symm this)]⟩
theorem Xm0 (h:isInt o=true):o=some (.int .i64 (intOf o)):=by
 cases o with
 | none=>cases h
 | some v =>
  cases v with
  | int k n=>cases k <;> first | rfl | cases h
  | _=>cases h
theorem X5p (x y:Int):(cmpZ x y < 0) ↔ x < y:=by
 unfold cmpZ;split
 ·constructor <;> intro _ <;> first | assumption | decide
 ·split
  ·constructor
   ·intro h; exact absurd h (by decide)
   ·intro h; contradiction
  ·constructor
   ·intro h; exact absurd h (by decide)
   ·intro h; contradiction
theorem Xoq {α:Type} (k:α->Int):SWO (ltOf fun x y=>cmpZ (k x) (k y)) where
 irrefl:=fun x=>decide_eq_false (by rw [X5p]; omega)
 trans:=fun x y z h1 h2=>by
  have h1:=(X5p _ _).mp (of_decide_eq_true h1);have h2:=(X5p _ _).mp (of_decide_eq_true h2);exact decide_eq_true ((X5p _ _).mpr (by omega))
 ntrans:=fun x y z h1 h2=>by
  have h1:=mt (X5p _ _).mpr (of_decide_eq_false h1);have h2:=mt (X5p _ _).mpr (of_decide_eq_false h2);exact decide_eq_false (mt (X5p _ _).mp (by omega))
theorem Xmc (cs:List Value) (o n:Nat):(X3z cs o n).size=n/\∀ q,q < n->(X3z cs o n)[q]! < n:=by
 have h:=(pdq_sorts (ltOf fun i j=>cmpZ (keyOf cs o n i) (keyOf cs o n j)) (Xoq (keyOf cs o n)) (Array.range n) 0 n (Go.Lib.bitLen n) true true (Nat.zero_le _) (by simp) (Or.inl rfl)).1;refine ⟨h.1.trans (by simp),fun q hq=>?_⟩;exact permIn_all _ _ 0 n (fun x=>x < n) (by simp) h (fun i _ hi=>by simp [hi]) q (Nat.zero_le _) hq
theorem Xif {α:Type} (f:Nat->List α) (hf:∀ i,(f i).length=15):∀ (d:List Nat),(d.flatMap f).length=d.length * 15/\∀ q r,r < 15->q < d.length->(d.flatMap f)[q * 15 + r]?=(f (d[q]?.getD 0))[r]?
 | []=>⟨rfl,fun q r _ h=>absurd h (Nat.not_lt_zero _)⟩
 | a :: d=>by
  obtain ⟨h1,h2⟩:=Xif f hf d;refine ⟨by rw [List.flatMap_cons,List.length_append,hf,h1,List.length_cons]; omega,fun q r hr hq=>?_⟩;rw [List.flatMap_cons];cases q with
  | zero =>
   rw [List.getElem?_append_left (by rw [hf]; omega),Nat.zero_mul,Nat.zero_add]; rfl
  | succ q =>
   rw [List.length_cons] at hq;rw [List.getElem?_append_right (by rw [hf]; omega),hf,show (q + 1) * 15 + r - 15=q * 15 + r by omega,h2 q r hr (by omega)]; rfl
theorem Xk2 {α:Type} (z:α) (cs:List α) (d:Array Nat) (o n:Nat) (s1:d.size=n) (s2:∀ q,q < n->d[q]! < n) (h:o + n * 15 <= cs.length) :
  (d.toList.flatMap fun i=>(cs.drop (o + i * 15)).take 15).length=n * 15/\∀ q r,q < n->r < 15->(d.toList.flatMap fun i=>(cs.drop (o + i * 15)).take 15)[q * 15 + r]?=cs[o + (d[q]! * 15 + r)]?:=by
 have hL:d.toList.length=n:=by rw [Array.length_toList]; exact s1
 have hd:∀ q,q < n->d.toList[q]?.getD 0=d[q]!:=fun q hq=>by
  rw [Array.getElem?_toList,Array.getElem!_eq_getD,Array.getD_eq_getD_getElem?]; rfl
 have hrow:∀ i,i < n->((cs.drop (o + i * 15)).take 15).length=15:=fun i hi=>by rw [List.length_take,List.length_drop]; omega
 let f:Nat->List α:=fun i=>if i < n then (cs.drop (o + i * 15)).take 15 else List.replicate 15 z;have hf:∀ i,(f i).length=15:=fun i=>by
  show List.length (if i < n then _ else _)=15;split
  ·exact hrow i (by assumption)
  ·rfl
 have hm:∀ i ∈ d.toList,i < n:=fun i hi=>by
  obtain ⟨q,hq⟩:=List.getElem?_of_mem hi;have hqn:q < n:=by rw [<- hL]; exact (List.getElem?_eq_some_iff.mp hq).1
  have:=hd q hqn;rw [hq] at this;have:=s2 q hqn;have e:i=d[q]!:=by simpa using (hd q hqn ▸ congrArg (fun x=>x.getD 0) hq.symm)
  omega
 have hF:∀ l:List Nat,(∀ i ∈ l,i < n)->(l.flatMap fun i=>(cs.drop (o + i * 15)).take 15)=l.flatMap f:=by
  intro l
  induction l with
  | nil=>intro _; rfl
  | cons a l ih =>
   intro h;rw [List.flatMap_cons,List.flatMap_cons,ih fun i hi=>h i (List.mem_cons_of_mem _ hi)];show _=(if a < n then _ else _) ++ _;rw [if_pos (h a (List.mem_cons_self ..))]
 obtain ⟨g1,g2⟩:=Xif f hf d.toList;rw [hL] at g1 g2;rw [hF _ hm];refine ⟨g1,fun q r hq hr=>?_⟩;rw [g2 q r hr hq,hd q hq];show (if d[q]! < n then _ else _:List α)[r]?=_;rw [if_pos (s2 q hq),List.getElem?_take,if_pos hr,List.getElem?_drop,Nat.add_assoc]
theorem Xux (cs:List Value) (o n:Nat) (h:o + n * 15 <= cs.length):(srt cs o n).length=cs.length/\(∀ i,i < o\/o + n * 15 <= i->(srt cs o n)[i]?=cs[i]?)/\∀ q r,q < n->r < 15->(srt cs o n)[o + (q * 15 + r)]?=cs[o + ((X3z cs o n)[q]! * 15 + r)]?:=by
 obtain ⟨s1,s2⟩:=Xmc cs o n;obtain ⟨g1,g2⟩:=Xk2 .nilFunc cs (X3z cs o n) o n s1 s2 h;have hto:(cs.take o).length=o:=by rw [List.length_take]; omega
 unfold srt;refine ⟨by simp only [List.length_append,g1,hto,List.length_drop]; omega,fun i hi=>?_,fun q r hq hr=>?_⟩
 ·rcases hi with hi | hi
  ·rw [List.append_assoc,List.getElem?_append_left (by omega),List.getElem?_take,if_pos hi]
  ·rw [List.getElem?_append_right (by rw [List.length_append,hto,g1]; omega),List.length_append,hto,g1,List.getElem?_drop];congr 1; omega
 ·rw [List.getElem?_append_left (by rw [List.length_append,hto,g1]; omega),List.getElem?_append_right (by omega),hto,show o + (q * 15 + r) - o=q * 15 + r by omega,g2 q r hq hr]
theorem Xq3 {f0 g0:FuncId} (hf:P.funcs[f0]?=some fn) (hb:fn.body=some bd) (hn:(fn.name == "runtime.NumGoroutine")=false) (hnone:∀ (p:Option Addr) (cap:Nat) (fv:Value) (w:World),Calls P f0 #[.slice p 0 cap,fv] w fun e w'=>e=.returned (.tuple #[])/\w'=w) (hall:∀ (enc:Nat->List Value) (hk:∀ x,(enc x).length=15) (h1:∀ x,∀ v ∈ enc x,v.oneCell'=true) (cf:Nat->Nat->Int) (hO:SWO (ltOf cf)) (blk off cap:Nat) (d:Array Nat) (w:World) (hcmp:CmpLays P g0 #[] enc 15 cf blk off d.size w) (hH:HoldsK enc 15 w blk off d) (hblk:blk < w.heap.size) (hsz:d.size < 4611686018427387904),
   Calls P f0 #[.slice (some ⟨blk,off,none⟩) d.size cap,.func (.func g0) #[] #[]] w fun e w'=>e=.returned (.tuple #[])/\∃ (n:Nat) (os:Array Obj),w'=sortWorldK enc 15 w blk off n (pdq (ltOf cf) d 0 d.size (Go.Lib.bitLen d.size) true true) os) (hcl:∀ (a b:List Value) (x y:Int) (w:World),a.length=15->b.length=15->a[0]?=some (.int .i64 x)->b[0]?=some (.int .i64 y)->Calls P g0 #[.agg a.toArray,.agg b.toArray] w fun e w'=>e=.returned (.int .i64 (cmpZ x y))/\∃ q os',w'=grow (w.drewN q) os'):X15 P W0 (Xgt f0 g0):=by
 intro φ m w f args cargs v m' hR hB hA hg;unfold Xgt at hg;dsimp only at hg;split at hg
 ·rename_i s n t g a c;split at hg
  ·rename_i hc;obtain ⟨rfl,rfl,ha,hc⟩:=hc;cases hA with
   | cons _ v1 _ l1 hv1 hl1 =>
   cases hl1 with
   | cons _ v2 _ l2 hv2 hl2 =>
   cases hl2;cases hv2 with
   | func _ _ _ a' c' ra rc =>
   rw [ha] at ra;rw [hc] at rc;have ea:a'=#[]:=by cases a'; cases ra; rfl
   have ec:c'=#[]:=by cases c'; cases rc; rfl
   subst ea ec;cases n with
   | zero =>
    simp only [Option.some.injEq,Prod.mk.injEq] at hg;obtain ⟨rfl,rfl⟩:=hg;cases hv1 with
    | nilSlice=>exact X30 (enters hf hb hn _ _) (hnone none 0 _ w) hR (.tuple _ _ .nil)
    | slice b o es _ _ B O cap pl h hes hn' hr hp=>exact X30 (enters hf hb hn _ _) (hnone _ cap _ w) hR (.tuple _ _ .nil)
   | succ n =>
    cases hv1 with
    | slice b o es _ _ B O cap pl hpb hes hn' hr hp =>
    simp only at hg;split at hg
    ·rename_i h15;obtain ⟨h15,hbig⟩:=h15;have h15:es=15:=Option.some.inj h15;subst h15;split at hg
     ·rename_i cs ver fro ro ty hgb;split at hg
      ·rename_i hh;obtain ⟨rfl,g1,g2,g3,g4,g5⟩:=hh;simp only [Option.some.injEq,Prod.mk.injEq] at hg;obtain ⟨rfl,rfl⟩:=hg;obtain ⟨hlt,o2,e0,hrel⟩:=hR.blocks b pl hpb;rw [hgb] at e0;cases e0;obtain ⟨r1,r2,r3,C,ety,lo,hi,r4,r5,r6,r7,r8⟩:=hrel;obtain ⟨hp1,_⟩:=hp (by rw [g2,r1]);have hcap:cap ≠ 0:=by omega
       obtain ⟨rfl,p2,p3,p4⟩:=hp1.resolve_left hcap;have hCs:O + (n + 1) * 15 <= C.size:=by
        have:(n + 1) * 15 <= cap * 15:=Nat.mul_le_mul_right _ hn';omega
       have cell:∀ j,j < (n + 1) * 15->∃ v cv,cs[o + j]?=some v/\C[O + j]?=some cv/\VRel φ v cv:=fun j hj=>by
        have hj2:o + j < cs.length:=by omega
        obtain ⟨cv,q1,q2⟩:=r6 (o + j) cs[o + j] (by omega) (List.getElem?_eq_getElem hj2);refine ⟨cs[o + j],cv,List.getElem?_eq_getElem hj2,?_,q2⟩;rw [<- q1];congr 1;omega
       let enc:Nat->List Value:=fun i=>if i < n + 1 then (C.toList.drop (O + i * 15)).take 15 else List.replicate 15 (.int .i64 0);have el:∀ i,i < n + 1->enc i=(C.toList.drop (O + i * 15)).take 15:=fun i hi=>if_pos hi;have er:∀ i,¬ i < n + 1->enc i=List.replicate 15 (.int .i64 0):=fun i hi=>if_neg hi;have row:∀ i r,i < n + 1->r < 15->(enc i)[r]?=C[O + (i * 15 + r)]?:=fun i r hi hr=>by
        rw [el i hi,List.getElem?_take,if_pos hr,List.getElem?_drop,Nat.add_assoc,Array.getElem?_toList]
       have hk:∀ x,(enc x).length=15:=fun x=>by
        by_cases hx:x < n + 1
        ·rw [el x hx,List.length_take,List.length_drop,Array.length_toList];omega
        ·rw [er x hx,List.length_replicate]
       have h1:∀ x,∀ u ∈ enc x,u.oneCell'=true:=fun x u hu=>by
        by_cases hx:x < n + 1
        ·obtain ⟨r,hr⟩:=List.getElem?_of_mem hu;have hr15:r < 15:=by
          have:=(List.getElem?_eq_some_iff.mp hr).1;rw [hk x] at this;exact this
         rw [row x r hx hr15] at hr;obtain ⟨u0,cv,q1,q2,q3⟩:=cell (x * 15 + r) (by omega);rw [q2] at hr;cases hr;exact Xoa q3 (List.all_eq_true.mp g4 u0 (List.mem_of_getElem? q1))
        ·rw [er x hx] at hu;rw [(List.mem_replicate.mp hu).2]; rfl
       have hz:∀ x,(enc x)[0]?=some (.int .i64 (intOf (enc x)[0]?)):=fun x=>by
        by_cases hx:x < n + 1
        ·obtain ⟨u0,cv,q1,q2,q3⟩:=cell (x * 15 + 0) (by omega);have q4:=Xm0 (g5 x hx);rw [Nat.add_zero] at q1;rw [q4] at q1;cases q1;cases q3;rw [row x 0 hx (by omega),q2]; rfl
        ·rw [er x hx]; rfl
       let cf:Nat->Nat->Int:=fun x y=>cmpZ (intOf (enc x)[0]?) (intOf (enc y)[0]?);have hcmp:CmpLays P g #[] enc 15 cf pl.blk O (Array.range (n + 1)).size w:=fun q os dk _ x y=>hcl (enc x) (enc y) _ _ _ (hk x) (hk y) (hz x) (hz y);have hH:HoldsK enc 15 w pl.blk O (Array.range (n + 1)):=fun j hj=>by
        rw [size_flatK,Array.size_range] at hj;have hdv:j / 15 < n + 1:=by omega
        obtain ⟨u0,cv,q1,q2,q3⟩:=cell j hj;constructor
        ·have e1:(flatK enc 15 (Array.range (n + 1)))[j]! = cv:=by
          rw [get_flatK _ _ _ _ (by rw [Array.size_range]; exact hj)];have e2:(Array.range (n + 1))[j / 15]! = j / 15:=by simp [hdv]
          rw [e2];have e3:=row (j / 15) (j % 15) hdv (Nat.mod_lt _ (by omega));rw [show j / 15 * 15 + j % 15=j by omega,q2] at e3;rw [List.getElem!_eq_getElem?_getD,e3]; rfl
         rw [e1];show w.cell? ⟨pl.blk,O + j,none⟩=some cv;unfold World.cell?;simp only [r4];exact q2
        ·show w.frozen? ⟨pl.blk,O + j,none⟩=false;unfold World.frozen?;simp only [r4];have:=r7 rfl (o + j) (by omega) (by omega) (by omega);rw [show pl.cb + (o + j - pl.lo)=O + j by omega] at this;by_cases l1:lo <= O + j
         ·have l2:¬ O + j < hi:=fun q=>this ⟨l1,q⟩;simp [l2]
         ·simp [l1]
       have hblk:pl.blk < w.heap.size:=by
        rcases Nat.lt_or_ge pl.blk w.heap.size with q | q
        ·exact q
        ·rw [Array.getElem?_eq_none q] at r4; cases r4
       have hc0:=hall enc hk h1 cf (Xoq _) pl.blk O cap (Array.range (n + 1)) w hcmp hH hblk (by rw [Array.size_range]; omega);rw [Array.size_range] at hc0;have hkey:∀ x,intOf (enc x)[0]?=keyOf cs o (n + 1) x:=fun x=>by
        unfold keyOf;by_cases hx:x < n + 1
        ·rw [if_pos hx];obtain ⟨u0,cv,q1,q2,q3⟩:=cell (x * 15 + 0) (by omega);have q4:=Xm0 (g5 x hx);rw [Nat.add_zero] at q1;rw [row x 0 hx (by omega),q2,q1];rw [q4] at q1;cases q1;cases q3;rfl
        ·rw [if_neg hx,er x hx]; rfl
       have hord:pdq (ltOf cf) (Array.range (n + 1)) 0 (n + 1) (Go.Lib.bitLen (n + 1)) true true=X3z cs o (n + 1):=by
        unfold X3z;have:cf=fun x y=>cmpZ (keyOf cs o (n + 1) x) (keyOf cs o (n + 1) y):=by
         funext x y;show cmpZ (intOf (enc x)[0]?) (intOf (enc y)[0]?)=_;rw [hkey,hkey]
        rw [this]; rfl
       rw [hord] at hc0;obtain ⟨o1,o2'⟩:=Xmc cs o (n + 1);obtain ⟨t1,t2,t3⟩:=Xux cs o (n + 1) g3;refine .inl ⟨enters hf hb hn _ _,hc0.mono fun e w' ⟨he,q,os,hw⟩=>⟨_,he,?_⟩⟩;subst hw;have hheap:(sortWorldK enc 15 w pl.blk O q (X3z cs o (n + 1)) os).heap=w.heap.modify pl.blk (onCells (putCells id O (flatK enc 15 (X3z cs o (n + 1))))) ++ os:=rfl;refine Xww (cs':=srt cs o (n + 1)) (C:=C) (C':=putCells id O (flatK enc 15 (X3z cs o (n + 1))) C) (ety:=ety) (lo:=lo) (hi:=hi) hR hpb r2 hgb r4 ?_ ?_ t1 (fun i v hi hv=>?_) ?_ (fun B hB hne=>?_) rfl rfl rfl
       ·rw [hheap,Array.getElem?_append_left (by simpa using hblk),Array.getElem?_modify,if_pos rfl,r4]; rfl
       ·simp [putCells]
       ·have hput:∀ j cv,C[j]?=some cv->(putCells id O (flatK enc 15 (X3z cs o (n + 1))) C)[j]?=some (if O <= j/\j < O + (n + 1) * 15 then (flatK enc 15 (X3z cs o (n + 1)))[j - O]! else cv):=fun j cv hj=>by
         unfold putCells;rw [Array.getElem?_mapIdx,hj,size_flatK,o1]; rfl
        by_cases hin:o <= i/\i < o + (n + 1) * 15
        ·obtain ⟨a,ha⟩:∃ a,i=o + a:=⟨i - o,by omega⟩
         subst ha;have e1:a=a / 15 * 15 + a % 15:=by omega
         have hq:a / 15 < n + 1:=by omega
         have hr:a % 15 < 15:=Nat.mod_lt _ (by omega);have hv2:=t3 (a / 15) (a % 15) hq hr;rw [<- e1,hv] at hv2;obtain ⟨u0,cv,q1,q2,q3⟩:=cell ((X3z cs o (n + 1))[a / 15]! * 15 + a % 15) (by have:=o2' _ hq; omega);rw [q1] at hv2;cases hv2;obtain ⟨u1,cv1,_,p2',_⟩:=cell a (by omega);refine ⟨cv,?_,q3⟩;rw [show pl.cb + (o + a - pl.lo)=O + a by omega,hput _ _ p2',if_pos ⟨by omega,by omega⟩,show O + a - O=a by omega,get_flatK _ _ _ _ (by rw [o1]; omega)];congr 1;have e3:=row _ (a % 15) (o2' _ hq) hr;rw [q2] at e3;rw [List.getElem!_eq_getElem?_getD,e3]; rfl
        ·have hv2:=t2 i (by omega);rw [hv] at hv2;obtain ⟨cv,k1,k2⟩:=r6 i v hi hv2.symm;refine ⟨cv,?_,k2⟩;rw [hput _ _ k1,if_neg (by omega)]
       ·rw [hheap]; simp
       ·rw [hheap,Array.getElem?_append_left (by simpa using hB),Array.getElem?_modify,if_neg (Ne.symm hne)]
      ·cases hg
     ·cases hg
    ·cases hg
  ·cases hg
 ·cases hg
end Go.Ab
namespace Go.Ab.Sh
open Go Go.Ab Go.Lib
variable {B N O P:Nat} {S:PSt} {a:UInt8} {k:Key} {l:List Cl} {m':Mem} {ty:Option Nat} {y:Value}
variable {c:Cx} {m0 m:Mem} {φ0 φ:Phi} {s0 s s':PSt} {cap δ:Nat}
def X9k (l:List Cl):List Value:=l.map fun | .v y=>y | .s _ _=>.nilFunc
def Xmh (d:Array Nat) (ts:List Tn):List Tn:=d.toList.flatMap fun i=>(ts.drop (0 + i * 15)).take 15
def clsT (X:NX) (k:Key) (n:Nat):List Tn:=match X k with | some (.c lc)=>Xmh (X3z (X9k lc) 0 n) (lc.mapIdx (tnC (tnK X 1) k)) | _=>[]
def polC (X:NX) (o:Nat):Cl->Tn
 | .v y=>.v y
 | .s n sz=>.l sz n (if n=0 then [] else clsT X [o,9,0] n)
def polT (X:NX):List Tn:=match X [9,0] with | some (.c l)=>l.mapIdx (polC X) | _=>[]
def devC (X:NX) (o:Nat):Cl->Tn
 | .v y=>.v y
 | .s n sz=>.l sz n (if n=0 then [] else if o=9 then polT X else tnK X 3 [o,0])
def devT (X:NX):List Tn:=match X [0] with | some (.c l)=>(l.take 12).mapIdx (devC X) | _=>[]
def Xqs (X:NX) (φ:Phi) (m:Mem) (j:Nat):Prop:=∀ lc,X [j * 3 + 1,9,0]=some (.c lc)->∃ ty,m.get (φ [j * 3 + 1,9,0]).b=some (.cells (srt (cells φ [j * 3 + 1,9,0] lc) 0 (nOf X [9,0] (j * 3 + 1))) (φ [j * 3 + 1,9,0]).ver 0 false ty)
def Xtq (k:Key):Prop:=4 <= k.length\/∃ t f,f ≠ 9/\k=t ++ [f,0]
theorem Xmg (o:Nat) (k:Key):Xtq k->Xtq (o :: k)
 | .inl h=>.inl (by rw [List.length_cons]; omega)
 | .inr ⟨t,f,h,e⟩=>.inr ⟨o :: t,f,h,by rw [e]; rfl⟩
theorem Xmb (h:Xtq k):(∀ j,k ≠ [j,9,0])/\k ≠ [0]:=by
 rcases h with h | ⟨t,f,hf,e⟩
 ·exact ⟨fun j e=>by rw [e] at h; simp at h,fun e=>by rw [e] at h; simp at h⟩
 ·refine ⟨fun j e2=>?_,fun e2=>?_⟩
  ·rw [e] at e2;have h1:t ++ [f,0]=[j] ++ [9,0]:=e2;have h2:=List.append_inj_right' h1 rfl;injection h2 with h2 _;exact hf h2
  ·rw [e] at e2;have:=congrArg List.length e2;simp at this
theorem li_X (h:LI B P O cap m φ S) (hk:k ≠ [0]):bX P O S k=S.X k:=Xip h.wt hk
theorem Xsd (h:LI B P O cap m φ S) (k:Key) (l:List Cl) (o n sz:Nat) (hX:S.X k=some (.c l)) (h0:k ≠ []) (ho:l[o]?=some (.s n sz)) (hn:n ≠ 0):∃ l',S.X (o :: k)=some (.c l')/\l'.length=n * sz:=by
 have hne:o :: k ≠ [0]:=fun e=>by injection e with e1 e2; exact h0 e2
 by_cases hk:k=[0]
 ·subst hk;obtain ⟨lr,hr0,hr18⟩:=h.wt.root;rw [hX] at hr0;cases hr0;have hb:bX P O S [0]=some (.c (l.take 12 ++ [if S.blk=0 then Value.nilFunc else .func (.func S.blk) ⟨[pt P 0 0]⟩ ⟨[]⟩,sv S.inn,mapV O].map Cl.v ++ l.drop 15)):=by unfold bX; rw [X1b hX,NX.set_eq]; rfl
  have hlt:o < 18:=by rw [<- hr18]; exact (List.getElem?_eq_some_iff.mp ho).1
  have g:=get_put (l:=l) (z:=[if S.blk=0 then Value.nilFunc else .func (.func S.blk) ⟨[pt P 0 0]⟩ ⟨[]⟩,sv S.inn,mapV O].map Cl.v) (o:=12) (by show 12 + 3 <= l.length; omega) o;have hno:¬ (12 <= o/\o < 12 + 3):=fun q=>by
   obtain ⟨c,q1,q2⟩:=h.wt.get hX (r:=0) rfl (o:=o) (by omega);rw [ho] at q1;cases q1;have:o=12\/o=13\/o=14:=by omega
   rcases this with rfl | rfl | rfl <;> exact q2
  have ow:=h.nr.ow [0] _ o n sz hb (by refine Eq.trans g ?_; exact (if_neg hno).trans ho);have:=ow.2.2;rw [if_neg hn,li_X h hne] at this;exact this
 ·have ow:=h.nr.ow k l o n sz (by rw [li_X h hk]; exact hX) ho;have:=ow.2.2;rw [if_neg hn,li_X h hne] at this;exact this
theorem Xpq (a b:List Value) (n:Nat) (h:∀ i,i < n->a[0 + i * 15]?=b[0 + i * 15]?):X3z a 0 n=X3z b 0 n:=by
 have:keyOf a 0 n=keyOf b 0 n:=by
  funext i;unfold keyOf;by_cases hi:i < n
  ·rw [if_pos hi,if_pos hi,h i hi]
  ·rw [if_neg hi,if_neg hi]
 unfold X3z;rw [this]
theorem Xxt (h:LI B P O cap m φ S) (hn:m.next <= m'.next) (hk:∀ k,S.X k ≠ none->(∀ j,k ≠ [j * 3 + 1,9,0])->k ≠ [0]->m'.get (φ k).b=m.get (φ k).b) (hD:∀ j,j < nOf S.X [0] 9->Xqs S.X φ m' j) (h0:S.X [0]=some (.c l)):RdL B m' (devT S.X) ((cells φ [0] l).take 12):=by
 have hl18:l.length=18:=by
  obtain ⟨lr,hr0,hr18⟩:=h.wt.root;rw [h0] at hr0;cases hr0;exact hr18
 have hdv:devT S.X=(l.take 12).mapIdx (devC S.X):=by unfold devT; rw [h0]
 have blk:∀ k l,S.X k=some (.c l)->k ≠ [0]->(∀ j,k ≠ [j * 3 + 1,9,0])->(φ k).r < 2/\B <= (φ k).b/\(φ k).b < m'.next/\∃ ty,m'.get (φ k).b=some (.cells (cells φ k l) (φ k).ver 0 false ty):=fun k l hX h0 hj=>by
  have hb:bX P O S k=some (.c l):=by rw [li_X h h0]; exact hX
  have hne:bX P O S k ≠ none:=by rw [hb]; simp
  obtain ⟨ty,g⟩:=h.nr.at' k _ hb;exact ⟨h.nr.r2 k hne,h.hB k hne,Nat.lt_of_lt_of_le (h.nr.hi k hne) hn,ty,by rw [hk k (by rw [hX]; simp) hj h0]; exact g⟩
 have rdk:=rd_K (B:=B) (X:=S.X) (φ:=φ) (m:=m') Xtq (fun k l hg hX=>blk k l hX (Xmb hg).2 fun j=>(Xmb hg).1 _) Xmg (fun k l o n sz hX h0 ho hn=>Xsd h k l o n sz hX h0 ho hn) h.wt;refine ⟨by rw [hdv,List.length_mapIdx,List.length_take,List.length_take,X10],fun i t y hi hy=>?_⟩;rw [hdv,List.getElem?_mapIdx,List.getElem?_take] at hi;rw [List.getElem?_take] at hy;by_cases h12:i < 12
 ·rw [if_pos h12] at hi hy;rw [Xm] at hy;cases hc:l[i]? with
  | none=>rw [hc] at hi; cases hi
  | some c =>
   rw [hc] at hi hy;cases hi;cases hy;cases c with
   | v y=>exact .v y
   | s n sz =>
    show Rd B m' (.l sz n (if n=0 then [] else if i=9 then polT S.X else tnK S.X 3 [i,0])) (slV (φ [i,0]) n sz);by_cases hz:n=0
    ·subst hz; rw [if_pos rfl]; exact .nil sz
    ·rw [if_neg hz];by_cases h9:i=9
     ·subst h9;rw [if_pos rfl];obtain ⟨l9,x1,x2⟩:=Xsd h [0] l 9 n sz h0 (by simp) hc hz;obtain ⟨b1,b0,b2,ty,b3⟩:=blk [9,0] l9 x1 (by decide) (fun j e=>by injection e with e1 e2; cases e2);have hpt:polT S.X=l9.mapIdx (polC S.X):=by unfold polT; rw [x1]
      have hsz:sz=3:=by
       obtain ⟨c,q1,q2⟩:=h.wt.get h0 (r:=0) rfl (o:=9) (by omega);rw [hc] at q1;cases q1;exact q2
      subst hsz;have hN:nOf S.X [0] 9=n:=by unfold nOf; rw [X6i h0,hc]; rfl
      rw [hpt];refine .l _ n 3 _ _ ty hz b1 b0 b2 b3 (by rw [X10]; exact x2) (by rw [List.length_mapIdx]; exact x2) fun o t y ho hy=>?_;rw [List.getElem?_mapIdx] at ho;rw [Xm] at hy;cases hc9:l9[o]? with
      | none=>rw [hc9] at ho; cases ho
      | some c =>
       rw [hc9] at ho hy;cases ho;cases hy;cases c with
       | v y=>exact .v y
       | s M z =>
        show Rd B m' (.l z M (if M=0 then [] else clsT S.X [o,9,0] M)) (slV (φ [o,9,0]) M z);by_cases hMz:M=0
        ·subst hMz; rw [if_pos rfl]; exact .nil z
        ·rw [if_neg hMz];have holt:o < l9.length:=(List.getElem?_eq_some_iff.mp hc9).1;have hk9:kt [9,0]=some 12:=rfl;obtain ⟨c,q1,q2⟩:=h.wt.get x1 hk9 holt;rw [hc9] at q1;cases q1;have hdm:o / 3 * 3 + o % 3=o:=by omega
         have hfd:=fd_row (r:=12) (sz:=3) rfl (o / 3) (o % 3) (Nat.mod_lt _ (by omega));rw [hdm] at hfd;rw [hfd] at q2;have hm3:o % 3=1/\z=15:=by
          have:o % 3=0\/o % 3=1\/o % 3=2:=by omega
          rcases this with e | e | e <;> rw [e] at q2
          ·exact False.elim q2
          ·exact ⟨e,q2⟩
          ·exact False.elim q2
         obtain ⟨hm3,rfl⟩:=hm3;have ho3:o=o / 3 * 3 + 1:=by omega
         generalize hj:o / 3=j at ho3;have hjn:j < nOf S.X [0] 9:=by rw [hN]; omega
         rw [ho3] at hc9 ⊢;obtain ⟨lc,y1,y2⟩:=Xsd h [9,0] l9 (j * 3 + 1) M 15 x1 (by simp) hc9 hMz;have hM:nOf S.X [9,0] (j * 3 + 1)=M:=by unfold nOf; rw [X6i x1,hc9]; rfl
         obtain ⟨tyc,gc⟩:=hD j hjn lc y1;rw [hM] at gc;have hkc:kt [j * 3 + 1,9,0]=some 13:=X2d hk9 (by rw [fd_row (r:=12) (sz:=3) rfl j 1 (by omega)]; rfl);have hbc:bX P O S [j * 3 + 1,9,0]=some (.c lc):=by rw [li_X h (fun e=>by injection e with e1 e2; cases e2)]; exact y1
         have hnec:bX P O S [j * 3 + 1,9,0] ≠ none:=by rw [hbc]; simp
         have hcl:clsT S.X [j * 3 + 1,9,0] M=Xmh (X3z (cells φ [j * 3 + 1,9,0] lc) 0 M) (lc.mapIdx (tnC (tnK S.X 1) [j * 3 + 1,9,0])):=by
          unfold clsT;rw [y1];show Xmh (X3z (X9k lc) 0 M) _=_;rw [Xpq (X9k lc) (cells φ [j * 3 + 1,9,0] lc) M fun i hi=>?_];have hend:=row_end (sz:=15) hi;obtain ⟨dd,d1,d2⟩:=h.wt.get y1 hkc (o:=i * 15 + 0) (by omega);rw [fd_row (r:=13) (sz:=15) rfl i 0 (by omega)] at d2;have d2:okc (some (.i .i64)) dd:=d2;rw [Nat.zero_add,Xm];unfold X9k;rw [List.getElem?_map];rw [Nat.add_zero] at d1;rw [d1];cases dd with
          | s _ _=>exact False.elim d2
          | v y=>rfl
         rw [hcl];obtain ⟨o1,o2⟩:=Xmc (cells φ [j * 3 + 1,9,0] lc) 0 M;have hle:0 + M * 15 <= (cells φ [j * 3 + 1,9,0] lc).length:=by rw [X10,y2]; omega
         obtain ⟨t1,_,t3⟩:=Xux (cells φ [j * 3 + 1,9,0] lc) 0 M hle;obtain ⟨p1,p2⟩:=Xk2 (.v .nilFunc) (lc.mapIdx (tnC (tnK S.X 1) [j * 3 + 1,9,0])) (X3z (cells φ [j * 3 + 1,9,0] lc) 0 M) 0 M o1 o2 (by rw [List.length_mapIdx,y2]; omega);refine .l _ M 15 _ _ tyc hMz (h.nr.r2 _ hnec) (h.hB _ hnec) (Nat.lt_of_lt_of_le (h.nr.hi _ hnec) hn) gc (by rw [t1,X10]; exact y2) p1 fun a t y ha hy=>?_;have haM:a < M * 15:=by rw [<- p1]; exact (List.getElem?_eq_some_iff.mp ha).1
         have ea:a=a / 15 * 15 + a % 15:=by omega
         have e1:=p2 (a / 15) (a % 15) (by omega) (Nat.mod_lt _ (by omega));have e2:=t3 (a / 15) (a % 15) (by omega) (Nat.mod_lt _ (by omega));rw [<- ea] at e1 e2;rw [Nat.zero_add] at e2;unfold Xmh at ha;rw [e1] at ha;rw [e2] at hy;generalize 0 + ((X3z (cells φ [j * 3 + 1,9,0] lc) 0 M)[a / 15]! * 15 + a % 15)=p at ha hy;rw [List.getElem?_mapIdx] at ha;rw [Xm] at hy;cases hlc:lc[p]? with
         | none=>rw [hlc] at ha; cases ha
         | some c =>
          rw [hlc] at ha hy;cases ha;cases hy;exact rdk 1 [j * 3 + 1,9,0] lc 13 y1 hkc (Nat.le_refl _) p c (.inl (Nat.le_refl _)) hlc
     ·rw [if_neg h9];have:=rdk 3 [0] l 0 h0 rfl (Nat.le_refl _) i (.s n sz) (.inr ⟨[],i,h9,rfl⟩) hc;show Rd B m' (.l sz n (tnK S.X 3 [i,0])) (slV (φ [i,0]) n sz);have e:tnC (tnK S.X 3) [0] i (.s n sz)=.l sz n (tnK S.X 3 [i,0]):=by
       show Tn.l sz n (if n=0 then [] else _)=_;rw [if_neg hz]
      rw [<- e];exact this
 ·rw [if_neg h12] at hi; cases hi
def Xi5:List Tn:=[.v (sv []),.v (.int .u8 0),.l 1 0 [],.l 11 0 [],.l 2 0 [],.l 3 0 [],.l 7 0 [],.l 2 0 [],.l 2 0 [],.l 3 0 [],.l 3 0 [],.l 6 0 []]
theorem Xjt (B:Nat) (m:Mem):RdL B m Xi5 Qi:=by
 refine ⟨rfl,fun i t y hi hy=>?_⟩;have:i < 12:=(List.getElem?_eq_some_iff.mp hi).1;have hc:i=0\/i=1\/i=2\/i=3\/i=4\/i=5\/i=6\/i=7\/i=8\/i=9\/i=10\/i=11:=by omega
 rcases hc with rfl | rfl | rfl | rfl | rfl | rfl | rfl | rfl | rfl | rfl | rfl | rfl <;> cases hi <;> cases hy <;> first | exact .v _ | exact .nil _
inductive Ty (N:Nat):Fd->Tn->Prop where
 | i (k:IntKind) (z:Int):Ty N (.i k) (.v (.int k z))
 | s (t:Str) (h:t.length <= SB):Ty N .s (.v (sv t))
 | b (x:Bool):Ty N .b (.v (.bool x))
 | f (t:Tn):Ty N .f t
 | l (r n:Nat) (ts:List Tn) (hn:n <= N) (hl:ts.length=n * rowL r) (h:∀ (i:Nat) (t:Tn) (g:Fd),ts[i]?=some t->fdAt r i=some g->Ty N g t):Ty N (.l r) (.l (rowL r) n ts)
def TyD (N:Nat) (ts:List Tn):Prop:=ts.length=12/\∀ (j:Nat) (t:Tn) (g:Fd),ts[j]?=some t->(rowT 0)[j]?=some g->Ty N g t
theorem okT {g:Fd} (h:okc (some g) (.v y)):Ty N g (.v y):=by
 cases g with
 | i k=>obtain ⟨n,rfl⟩:=h; exact .i k n
 | s=>obtain ⟨t,rfl,ht⟩:=h; exact .s t ht
 | b=>obtain ⟨x,rfl⟩:=h; exact .b x
 | l r=>exact False.elim h
 | f=>exact .f _
theorem ty_K {N:Nat} {X:NX} (wt:WT X) (how:∀ k l o n sz,X k=some (.c l)->k ≠ []->l[o]?=some (.s n sz)->n ≠ 0->n <= N/\∃ l',X (o :: k)=some (.c l')/\l'.length=n * sz) :
  ∀ (d:Nat) (k:Key) (l:List Cl) (r:Nat),X k=some (.c l)->kt k=some r->hT r <= d->∀ o c g,l[o]?=some c->fdAt r o=some g->Ty N g (tnC (tnK X d) k o c)
 | d,k,l,r,hX,hr,hd,o,.v y,g,ho,hg=>by
  obtain ⟨c',q1,q2⟩:=wt.get hX hr (List.getElem?_eq_some_iff.mp ho).1;rw [ho] at q1;cases q1;rw [hg] at q2;exact okT q2
 | d,k,l,r,hX,hr,hd,o,.s n sz,g,ho,hg=>by
  obtain ⟨c',q1,q2⟩:=wt.get hX hr (List.getElem?_eq_some_iff.mp ho).1;rw [ho] at q1;cases q1;rw [hg] at q2;obtain ⟨r',rfl⟩:∃ r',g=.l r':=by cases g <;> first | exact ⟨_,rfl⟩ | exact False.elim q2
  have q2:sz=rowL r':=q2;subst q2;show Ty N (.l r') (.l (rowL r') n (if n=0 then [] else tnK X d (o :: k)));by_cases hn:n=0
  ·subst hn;rw [if_pos rfl];exact .l r' 0 [] (Nat.zero_le _) (by simp) (by simp)
  ·rw [if_neg hn];have hk0:k ≠ []:=fun e=>by rw [e] at hr; cases hr
   obtain ⟨hN,l',x1,x2⟩:=how k l o n _ hX hk0 ho hn;have hh:=Xxi hg;obtain ⟨d',rfl⟩:∃ d',d=d' + 1:=⟨d - 1,by omega⟩
   rw [Xtz x1];refine .l r' n _ hN (by rw [List.length_mapIdx]; exact x2) fun i t g hi hg'=>?_;rw [List.getElem?_mapIdx] at hi;cases hc:l'[i]? with
   | none=>rw [hc] at hi; cases hi
   | some c =>
    rw [hc] at hi;cases hi;exact ty_K wt how d' (o :: k) l' r' x1 (X2d hr hg) (by omega) i c g hc hg'
theorem Xxw {X:NX} (wt:WT X) (how:∀ k l o n sz,X k=some (.c l)->k ≠ []->l[o]?=some (.s n sz)->n ≠ 0->n <= N/\∃ l',X (o :: k)=some (.c l')/\l'.length=n * sz):TyD N (devT X):=by
 obtain ⟨l,h0,hl18⟩:=wt.root;have hdv:devT X=(l.take 12).mapIdx (devC X):=by unfold devT; rw [h0]
 rw [hdv];refine ⟨by rw [List.length_mapIdx,List.length_take,hl18]; rfl,fun j t g hj hg=>?_⟩;have hj12:j < 12:=by
  have:=(List.getElem?_eq_some_iff.mp hj).1;rw [List.length_mapIdx,List.length_take] at this;omega
 rw [List.getElem?_mapIdx,List.getElem?_take,if_pos hj12] at hj;have hfd:fdAt 0 j=some g:=by
  have e:j=0 * rowL 0 + j:=by omega
  rw [e,fdAt_row 0 0 j (by show j < 18; omega)];exact hg
 cases hc:l[j]? with
 | none=>rw [hc] at hj; cases hj
 | some c =>
  rw [hc] at hj;cases hj;obtain ⟨c',q1,q2⟩:=wt.get h0 (r:=0) rfl (o:=j) (by omega);rw [hc] at q1;cases q1;rw [hfd] at q2;cases c with
  | v y=>exact okT q2
  | s n sz =>
   show Ty N g (.l sz n (if n=0 then [] else if j=9 then polT X else tnK X 3 [j,0]));have tk:=ty_K wt how 3 [0] l 0 h0 rfl (Nat.le_refl _) j (.s n sz) g hc hfd;by_cases hn:n=0
   ·subst hn; exact tk
   ·by_cases h9:j=9
    ·subst h9;rw [if_neg hn,if_pos rfl];obtain rfl:g=.l 12:=by cases hg; rfl
     obtain rfl:sz=rowL 12:=q2;obtain ⟨hN,l9,x1,x2⟩:=how [0] l 9 n _ h0 (by simp) hc hn;have hpt:polT X=l9.mapIdx (polC X):=by unfold polT; rw [x1]
     rw [hpt];have hk9:kt [9,0]=some 12:=rfl;refine .l 12 n _ hN (by rw [List.length_mapIdx]; exact x2) fun o t g ho hg'=>?_;rw [List.getElem?_mapIdx] at ho;cases hc9:l9[o]? with
     | none=>rw [hc9] at ho; cases ho
     | some c =>
      rw [hc9] at ho;cases ho;obtain ⟨c',q1,q2⟩:=wt.get x1 hk9 (List.getElem?_eq_some_iff.mp hc9).1;rw [hc9] at q1;cases q1;rw [hg'] at q2;cases c with
      | v y=>exact okT q2
      | s M z =>
       show Ty N g (.l z M (if M=0 then [] else clsT X [o,9,0] M));have tk:=ty_K wt how 2 [9,0] l9 12 x1 hk9 (Nat.le_refl _) o (.s M z) g hc9 hg';by_cases hM:M=0
       ·subst hM; exact tk
       ·rw [if_neg hM];have e13:g=.l 13:=by
         have hm:g=.s\/g=.l 13\/g=.b:=by
          have:g ∈ rowT 12:=List.mem_of_getElem? hg';simpa [rowT] using this
         rcases hm with rfl | rfl | rfl
         ·exact False.elim q2
         ·rfl
         ·exact False.elim q2
        subst e13;obtain rfl:z=rowL 13:=q2;obtain ⟨hMN,lc,y1,y2⟩:=how [9,0] l9 o M _ x1 (by simp) hc9 hM;have hcl:clsT X [o,9,0] M=Xmh (X3z (X9k lc) 0 M) (lc.mapIdx (tnC (tnK X 1) [o,9,0])):=by unfold clsT; rw [y1]
        rw [hcl];obtain ⟨o1,o2⟩:=Xmc (X9k lc) 0 M;have y2':lc.length=M * 15:=y2;obtain ⟨p1,p2⟩:=Xk2 (.v .nilFunc) (lc.mapIdx (tnC (tnK X 1) [o,9,0])) (X3z (X9k lc) 0 M) 0 M o1 o2 (by rw [List.length_mapIdx,y2']; omega);refine .l 13 M _ hMN p1 fun a t g ha hga=>?_;have haM:a < M * 15:=by rw [<- p1]; exact (List.getElem?_eq_some_iff.mp ha).1
        have ea:a=a / 15 * 15 + a % 15:=by omega
        have e1:=p2 (a / 15) (a % 15) (by omega) (Nat.mod_lt _ (by omega));rw [<- ea] at e1;unfold Xmh at ha;rw [e1] at ha;have hg2:fdAt 13 (0 + ((X3z (X9k lc) 0 M)[a / 15]! * 15 + a % 15))=some g:=by
         rw [Nat.zero_add,fd_row (r:=13) (sz:=15) rfl _ _ (Nat.mod_lt _ (by omega)),<- fd_row (r:=13) (sz:=15) rfl (a / 15) _ (Nat.mod_lt _ (by omega)),<- ea];exact hga
        generalize 0 + ((X3z (X9k lc) 0 M)[a / 15]! * 15 + a % 15)=p at ha hg2;rw [List.getElem?_mapIdx] at ha;cases hlc:lc[p]? with
        | none=>rw [hlc] at ha; cases ha
        | some c =>
         rw [hlc] at ha;cases ha;exact ty_K wt how 1 [o,9,0] lc 13 y1 (X2d hk9 hg') (Nat.le_refl _) p c g hlc hg2
    ·rw [if_neg hn,if_neg h9];have e:tnC (tnK X 3) [0] j (.s n sz)=.l sz n (tnK X 3 [j,0]):=by
      show Tn.l sz n (if n=0 then [] else _)=_;rw [if_neg hn]
     rw [<- e];exact tk
theorem Xjj (N:Nat):TyD N Xi5:=by
 refine ⟨rfl,fun i t g hi hg=>?_⟩;have:i < 12:=(List.getElem?_eq_some_iff.mp hi).1;have hc:i=0\/i=1\/i=2\/i=3\/i=4\/i=5\/i=6\/i=7\/i=8\/i=9\/i=10\/i=11:=by omega
 rcases hc with rfl | rfl | rfl | rfl | rfl | rfl | rfl | rfl | rfl | rfl | rfl | rfl <;> cases hi <;> cases hg <;> first | exact .s [] (Nat.zero_le _) | exact .i _ _ | exact .l _ 0 [] (Nat.zero_le _) rfl (by simp)
theorem Xyg {cap:Nat} {m:Mem} {φ:Phi} (h:LI B P O cap m φ S) (k:Key) (l:List Cl) (o n sz:Nat) (hX:S.X k=some (.c l)) (h0:k ≠ []) (ho:l[o]?=some (.s n sz)) (hn:n ≠ 0):n <= cap/\∃ l',S.X (o :: k)=some (.c l')/\l'.length=n * sz:=by
 refine ⟨?_,Xsd h k l o n sz hX h0 ho hn⟩;by_cases hk:k=[0]
 ·subst hk;obtain ⟨lr,hr0,hr18⟩:=h.wt.root;rw [hX] at hr0;cases hr0;have hb:bX P O S [0]=some (.c (l.take 12 ++ [if S.blk=0 then Value.nilFunc else .func (.func S.blk) ⟨[pt P 0 0]⟩ ⟨[]⟩,sv S.inn,mapV O].map Cl.v ++ l.drop 15)):=by unfold bX; rw [X1b hX,NX.set_eq]; rfl
  have hlt:o < 18:=by rw [<- hr18]; exact (List.getElem?_eq_some_iff.mp ho).1
  have g:=get_put (l:=l) (z:=[if S.blk=0 then Value.nilFunc else .func (.func S.blk) ⟨[pt P 0 0]⟩ ⟨[]⟩,sv S.inn,mapV O].map Cl.v) (o:=12) (by show 12 + 3 <= l.length; omega) o;have hno:¬ (12 <= o/\o < 12 + 3):=fun q=>by
   obtain ⟨c,q1,q2⟩:=h.wt.get hX (r:=0) rfl (o:=o) (by omega);rw [ho] at q1;cases q1;have:o=12\/o=13\/o=14:=by omega
   rcases this with rfl | rfl | rfl <;> exact q2
  exact (h.nr.ow [0] _ o n sz hb (by refine Eq.trans g ?_; exact (if_neg hno).trans ho)).1
 ·exact (h.nr.ow k l o n sz (by rw [li_X h hk]; exact hX) ho).1
theorem Xy0 {cap:Nat} {m:Mem} {φ:Phi} (h:LI B P O cap m φ S) (hN:cap <= N):TyD N (if sOf S.X [0] 0=[] then Xi5 else devT S.X):=by
 split
 ·exact Xjj N
 ·exact Xxw h.wt fun k l o n sz a b c d=>have q:=Xyg h k l o n sz a b c d; ⟨Nat.le_trans q.1 hN,q.2⟩
variable {c:Cx} {m0 m:Mem} {φ0 φ:Phi} {s0 s s':PSt} {cap δ:Nat} {ts:List Tmp} {x:Option Rs} {Q:Value->Nat->Phi->PSt->Prop} {v:Value} {cu:Cu}
abbrev srtF:Value:=.func (.func Qdp) #[] #[]
def Xb0:Prop:=∀ (L:Lc) (n d:Nat) (m:Mem) (cs:List Value) (ty:Option Nat),(n ≠ 0->L.r < 2/\L.b < m.next/\m.get L.b=some (.cells cs L.ver 0 false ty))->cs.length=n * 15->n <= 8589934592->(∀ i,i < n->∃ z,cs[i * 15]?=some (.int .i64 z))->cs.all one=true ->
 ∃ m',TA (d + 9) Q2x [slV L n 15,srtF] m=some (.tuple ⟨[]⟩,m')/\m.next <= m'.next/\m'.low <= m.low/\(n=0/\m'=m\/n ≠ 0/\(∀ y,y <= m.low->y <= L.b->y <= m'.low)/\m'.low <= L.b/\(∀ b,b < m.next->b ≠ L.b->m'.get b=m.get b)/\m'.get L.b=some (.cells (srt cs 0 n) L.ver 0 false ty))
theorem Xhn (hS:Xb0) (d:Nat) {B P O p2 p3:Nat} {S:PSt} {m0:Mem} (h:LI B P O cap m0 φ S) (hcap:cap <= 8589934592) (hBm:B <= m0.next) (hN:0 < nOf S.X [0] 9):∀ (n i f:Nat) (m:Mem),i + n=nOf S.X [0] 9->n < f->Fb B m0 m->(∀ b,b < m0.next->(∀ j,j < i->S.X [j * 3 + 1,9,0] ≠ none->b ≠ (φ [j * 3 + 1,9,0]).b)->m.get b=m0.get b)->(∀ j,j < i->Xqs S.X φ m j) ->
  ∃ m',Q6u (d9 d) f (I i) (I (nOf S.X [0] 9)) (slV (φ [9,0]) (nOf S.X [0] 9) 3) (pt P 0 0) (pt p2 0 0) (pt p3 0 0) m=Qdq (d9 d) (pt P 0 0) (pt p2 0 0) (pt p3 0 0) m'/\Fb B m0 m'/\(∀ b,b < m0.next->(∀ j,S.X [j * 3 + 1,9,0] ≠ none->b ≠ (φ [j * 3 + 1,9,0]).b)->m'.get b=m0.get b)/\∀ j,j < nOf S.X [0] 9->Xqs S.X φ m' j
 | 0,i,f + 1,m,e,hf,hF,hg,hD=>by
  have:i=nOf S.X [0] 9:=by omega
  subst this;refine ⟨m,?_,hF,fun b hb hb2=>hg b hb fun j _ hj=>hb2 j hj,hD⟩;unfold Q6u;delta C H D qc B T S Y X A qh;simp only [Q1d,X3,Int.lt_irrefl,decide_false,X6]
 | n + 1,i,f + 1,m,e,hf,hF,hg,hD=>by
  have hi:i < nOf S.X [0] 9:=by omega
  have hlt:decide (((i:Nat):Int) < ((nOf S.X [0] 9:Nat):Int))=true:=decide_eq_true (by omega)
  -- the policies' rows
  obtain ⟨lr,hr0,hr18⟩:=h.wt.root;have hX:∀ k:Key,k ≠ [0]->bX P O S k=S.X k:=fun k hk=>Xip h.wt hk;have root:∃ l',bX P O S [0]=some (.c l')/\l'[9]?=some (.s (nOf S.X [0] 9) 3):=by
   refine ⟨_,by unfold bX; rw [X1b hr0,NX.set_eq],?_⟩;have g:=get_put (l:=lr) (z:=[if S.blk=0 then .nilFunc else .func (.func S.blk) ⟨[pt P 0 0]⟩ ⟨[]⟩,sv S.inn,mapV O].map Cl.v) (o:=12) (by show 12 + 3 <= lr.length; omega) 9;refine Eq.trans g ?_;rw [if_neg (by omega)];obtain ⟨d9',q1,q2⟩:=h.wt.get hr0 (r:=0) rfl (o:=9) (by omega);have q2:okc (some (.l 12)) d9':=q2;cases d9' with
   | v y=>exact False.elim q2
   | s a b =>
    have q2:b=3:=q2;subst q2;have:nOf S.X [0] 9=a:=by unfold nOf; rw [X6i hr0,q1]; rfl
    rw [this]; exact q1
  obtain ⟨l',a1,a2⟩:=root;have ow9:=h.nr.ow [0] l' 9 _ 3 a1 a2;have o3:=ow9.2.2;rw [if_neg (by omega),hX _ (by decide)] at o3;obtain ⟨l9,b1,b2⟩:=o3;have hr9:=h.nr.r2 [9,0] (by rw [hX _ (by decide),b1]; simp);obtain ⟨ty9,g9⟩:=h.nr.at' [9,0] (.c l9) (by rw [hX _ (by decide)]; exact b1);have hb9:=h.nr.hi [9,0] (by rw [hX _ (by decide),b1]; simp);have ne9:∀ j,S.X [j * 3 + 1,9,0] ≠ none->(φ [9,0]).b ≠ (φ [j * 3 + 1,9,0]).b:=fun j hj e=>by
   have:=h.nr.inj [9,0] [j * 3 + 1,9,0] (by rw [hX _ (by decide),b1]; simp) (by rw [hX _ (fun e=>by injection e with e1 e2; cases e2)]; exact hj) e;injection this with q1 q2; cases q2
  have g9m:m.get (φ [9,0]).b=some (.cells (cells φ [9,0] l9) (φ [9,0]).ver 0 false ty9):=by rw [hg _ hb9 (fun j _ hj=>ne9 j hj)]; exact g9
  have hend:=row_end (sz:=3) hi;have hk9:kt [9,0]=some 12:=rfl
  -- the row's cells
  obtain ⟨c0,r01,r02⟩:=h.wt.get b1 hk9 (o:=i * 3 + 0) (by omega);obtain ⟨c1,r11,r12⟩:=h.wt.get b1 hk9 (o:=i * 3 + 1) (by omega);obtain ⟨c2,r21,r22⟩:=h.wt.get b1 hk9 (o:=i * 3 + 2) (by omega);rw [fd_row (r:=12) (sz:=3) rfl i 0 (by omega)] at r02;rw [fd_row (r:=12) (sz:=3) rfl i 1 (by omega)] at r12;rw [fd_row (r:=12) (sz:=3) rfl i 2 (by omega)] at r22;have r02:okc (some .s) c0:=r02;have r12:okc (some (.l 13)) c1:=r12;have r22:okc (some .b) c2:=r22;cases c0 with
  | s _ _=>exact False.elim r02
  | v y0 =>
  cases c1 with
  | v _=>exact False.elim r12
  | s M z =>
  have r12:z=15:=r12;subst r12;cases c2 with
  | s _ _=>exact False.elim r22
  | v y2 =>
  obtain ⟨t0,rfl,_⟩:=r02;obtain ⟨t2,rfl⟩:=r22;have row:((cells φ [9,0] l9).drop (i * 3)).take 3=[sv t0,slV (φ [i * 3 + 1,9,0]) M 15,.bool t2]:=by
   apply List.ext_getElem?;intro q;rw [List.getElem?_take];have:q=0\/q=1\/q=2\/3 <= q:=by omega
   rcases this with rfl | rfl | rfl | hq
   ·rw [if_pos (by omega),List.getElem?_drop,Xm,r01]; rfl
   ·rw [if_pos (by omega),List.getElem?_drop,Xm,r11]; rfl
   ·rw [if_pos (by omega),List.getElem?_drop,Xm,r21]; rfl
   ·rw [if_neg (by omega),List.getElem?_eq_none (by simp; omega)]
  have ix:Xa 3 (slV (φ [9,0]) (nOf S.X [0] 9) 3) (I i)=some (pt (φ [9,0]).b (i * 3) (φ [9,0]).ver):=X3e _ hr9 _ 3 i .i64 hi;have lg:X8 true 3 (pt (φ [9,0]).b (i * 3) (φ [9,0]).ver) m=some (.agg ⟨[sv t0,slV (φ [i * 3 + 1,9,0]) M 15,.bool t2]⟩):=Xv g9m (by rw [X10]; omega) row;have hsv1:(slV (φ [i * 3 + 1,9,0]) M 15).cells=#[slV (φ [i * 3 + 1,9,0]) M 15]:=by unfold slV; split <;> rfl
  obtain ⟨m1,n1,n2,n3,n4⟩:=X2c [] m (some (2 * Q5y + 1)) Q93 (v:=.agg ⟨[sv t0,slV (φ [i * 3 + 1,9,0]) M 15,.bool t2]⟩) (n:=3) rfl rfl (by show ([sv t0,slV (φ [i * 3 + 1,9,0]) M 15,.bool t2]:List Value).all one=true; show (one (sv t0) && (one (slV (φ [i * 3 + 1,9,0]) M 15) && (one (.bool t2) && true)))=true; rw [X76]; rfl);have n1:Xd 3 (pt m.next 0 0) (.agg ⟨[sv t0,slV (φ [i * 3 + 1,9,0]) M 15,.bool t2]⟩) (m.push (.cells Q93 0 0 false (some (2 * Q5y + 1))))=some m1:=n1;have hn1:m1.next=m.next + 1:=n3;have hgm1:∀ b,b < m.next->m1.get b=m.get b:=fun b hb=>n2.get b hb (by simp);have hFn:=hF.next;have F1:Fb B m m1:=n2.toFb (by omega);have l1:X8 false 1 (pt m.next 1 0) m1=some (slV (φ [i * 3 + 1,9,0]) M 15):=X12 n4 rfl
  -- the clauses
  have owc:=h.nr.ow [9,0] l9 (i * 3 + 1) M 15 (by rw [hX _ (by decide)]; exact b1) r11;have hMc:M <= cap:=owc.1;have oc:=owc.2.2;rw [hX _ (fun e=>by injection e with e1 e2; cases e2)] at oc;have hcl:∃ cs ty,(M ≠ 0->S.X [i * 3 + 1,9,0] ≠ none/\(φ [i * 3 + 1,9,0]).r < 2/\(φ [i * 3 + 1,9,0]).b < m0.next/\B <= (φ [i * 3 + 1,9,0]).b/\m1.get (φ [i * 3 + 1,9,0]).b=some (.cells cs (φ [i * 3 + 1,9,0]).ver 0 false ty))/\cs.length=M * 15/\(∀ j,j < M->∃ z,cs[j * 15]?=some (.int .i64 z))/\cs.all one=true/\(∀ lc,S.X [i * 3 + 1,9,0]=some (.c lc)->M ≠ 0/\cs=cells φ [i * 3 + 1,9,0] lc):=by
   by_cases hz:M=0
   ·subst hz;rw [if_pos rfl] at oc;exact ⟨[],none,fun q=>absurd rfl q,by simp,fun j hj=>absurd hj (Nat.not_lt_zero _),rfl,fun lc q=>by rw [oc] at q; cases q⟩
   ·rw [if_neg hz] at oc;obtain ⟨lc,q1,q2⟩:=oc;have hXk:bX P O S [i * 3 + 1,9,0]=some (.c lc):=by rw [hX _ (fun e=>by injection e with e1 e2; cases e2)]; exact q1
    have hne0:bX P O S [i * 3 + 1,9,0] ≠ none:=by rw [hXk]; simp
    obtain ⟨tyc,gc⟩:=h.nr.at' _ _ hXk;have hbc:=h.nr.hi _ hne0;have hkc:kt [i * 3 + 1,9,0]=some 13:=X2d hk9 (by rw [fd_row (r:=12) (sz:=3) rfl i 1 (by omega)]; rfl);refine ⟨cells φ [i * 3 + 1,9,0] lc,tyc,fun _=>⟨by rw [q1]; simp,h.nr.r2 _ hne0,hbc,h.hB _ hne0,?_⟩,by rw [X10]; exact q2,fun j hj=>?_,cells_ok (h.nr.ok _ _ hXk),fun lc' q=>⟨hz,by rw [q1] at q; cases q; rfl⟩⟩
    ·rw [hgm1 _ (by omega),hg _ hbc (fun j hj hjn e=>by
      have:=h.nr.inj [i * 3 + 1,9,0] [j * 3 + 1,9,0] hne0 (by rw [hX _ (fun e=>by injection e with e1 e2; cases e2)]; exact hjn) e;injection this with e1 e2;omega)]
     exact gc
    ·have hend2:=row_end (sz:=15) hj;obtain ⟨dd,d1,d2⟩:=h.wt.get q1 hkc (o:=j * 15 + 0) (by omega);rw [fd_row (r:=13) (sz:=15) rfl j 0 (by omega)] at d2;have d2:okc (some (.i .i64)) dd:=d2;cases dd with
     | s _ _=>exact False.elim d2
     | v y =>
      obtain ⟨z,rfl⟩:=d2;rw [Nat.add_zero] at d1;exact ⟨z,by rw [Xm,d1]; rfl⟩
  obtain ⟨cs,tyc,hc1,hc2,hc3,hc4,hc5⟩:=hcl;have hM:nOf S.X [9,0] (i * 3 + 1)=M:=by unfold nOf; rw [X6i b1,r11]; rfl
  obtain ⟨m2,s1,s2,s3,s4⟩:=hS (φ [i * 3 + 1,9,0]) M d m1 cs tyc (fun q=>⟨(hc1 q).2.1,by have:=(hc1 q).2.2.1; omega,(hc1 q).2.2.2.2⟩) hc2 (by omega) hc3 hc4;have F2:Fb B m1 m2:=by
   rcases s4 with ⟨_,rfl⟩ | ⟨hz,u1,u2,u3,_⟩
   ·exact .refl _ _
   ·have hbB:=(hc1 hz).2.2.2.1;exact {
     next:=s2
     low:=s3
     low2:=fun y a b=>u1 y a (by omega)
     get:=fun b hb=>u3 b (by omega) (by omega)
     lo:=fun b hb=>by
      by_cases e:b=(φ [i * 3 + 1,9,0]).b
      ·exact .inl (by omega)
      ·exact .inr (u3 b hb e) }
  have hg2:∀ b,b < m0.next->(∀ j,j < i + 1->S.X [j * 3 + 1,9,0] ≠ none->b ≠ (φ [j * 3 + 1,9,0]).b)->m2.get b=m0.get b:=fun b hb hb2=>by
   have e1:m1.get b=m0.get b:=by rw [hgm1 b (by omega)]; exact hg b hb fun j hj hjn=>hb2 j (by omega) hjn
   rcases s4 with ⟨_,rfl⟩ | ⟨hz,u1,u2,u3,_⟩
   ·exact e1
   ·rw [u3 b (by omega) (hb2 i (by omega) (hc1 hz).1)]; exact e1
  have hD2:∀ j,j < i + 1->Xqs S.X φ m2 j:=fun j hj lc hlc=>by
   have hk:∀ j:Nat,[j * 3 + 1,9,0] ≠ [0]:=fun j e=>by injection e with e1 e2; cases e2
   have hneX:bX P O S [j * 3 + 1,9,0] ≠ none:=by rw [hX _ (hk j),hlc]; simp
   have hlt:=h.nr.hi _ hneX;by_cases hji:j=i
   ·subst hji;obtain ⟨hz0,hcs⟩:=hc5 lc hlc;rcases s4 with ⟨hz,_⟩ | ⟨_,_,_,_,u4⟩
    ·exact absurd hz hz0
    ·refine ⟨tyc,?_⟩;rw [hM,<- hcs];exact u4
   ·obtain ⟨ty,q⟩:=hD j (by omega) lc hlc;refine ⟨ty,?_⟩;have e1:=hgm1 _ (show (φ [j * 3 + 1,9,0]).b < m.next by omega);rcases s4 with ⟨_,rfl⟩ | ⟨hz,_,_,u3,_⟩
    ·rw [e1]; exact q
    ·rw [u3 _ (by omega) (fun e=>by
      have:=h.nr.inj [j * 3 + 1,9,0] [i * 3 + 1,9,0] hneX (by rw [hX _ (hk i)]; exact (hc1 hz).1) e;injection this with e1 e2;omega),e1]
     exact q
  obtain ⟨m',v1,v2,v3⟩:=Xhn hS d h hcap hBm hN n (i + 1) f m2 (by omega) (by omega) (hF.trans (F1.trans F2)) hg2 hD2;refine ⟨m',?_,v2,v3⟩;have ei:bin .add true true .int (I i) (.int .i64 1)=some (I (i + 1:Nat)):=by
   have hcapN:nOf S.X [0] 9 <= cap:=ow9.1;rw [Q35];have:((i:Nat):Int) + 1=((i + 1:Nat):Int):=by omega
   rw [this,wrap64 _ (by omega)]
  unfold Q6u;delta C H D qc B T S Y X A qh;simp only [Q1d,X3,hlt,X7,ix,lg,Xp,X4,n1,Xo,X9,Nat.zero_add,l1,s1,ei];exact v1
def ansN (o:Except (Nat × Nat × Int) PSt):Nat × Nat × Int:=match o with
 | .error e=>e
 | .ok S=>if sOf S.X [0] 0=[] then (0,0,5) else (0,0,0)
def devN (o:Except (Nat × Nat × Int) PSt):List Tn:=match o with
 | .error _=>Xi5
 | .ok S=>if sOf S.X [0] 0=[] then Xi5 else devT S.X
theorem Xoz (hS:Xb0) (d:Nat) {p2 p3:Nat} (h:LI B P O cap m φ S) (hcap:cap <= 8589934592) (hBm:B <= m.next) (hA:Ans m p2 p3) (hB2:B <= p2) (hB3:B <= p3) (hne:∀ k,bX P O S k ≠ none->(φ k).b ≠ p2/\(φ k).b ≠ p3) :
  ∃ (dv:List Value) (m':Mem),Qau (d9 d) (pt P 0 0) (pt p2 0 0) (pt p3 0 0) m=some (.tuple ⟨[.agg ⟨dv⟩,posV 0 0,.int .i64 (ansN (.ok S)).2.2]⟩,m')/\Fb B m m'/\dv.length=12/\dv.all one=true/\RdL B m' (devN (.ok S)) dv:=by
 obtain ⟨lr,hr0,hr18⟩:=h.wt.root;have hX:∀ k:Key,k ≠ [0]->bX P O S k=S.X k:=fun k hk=>Xip h.wt hk;have hX0:bX P O S [0]=some (.c (lr.take 12 ++ [if S.blk=0 then Value.nilFunc else .func (.func S.blk) ⟨[pt P 0 0]⟩ ⟨[]⟩,sv S.inn,mapV O].map Cl.v ++ lr.drop 15)):=by unfold bX; rw [X1b hr0,NX.set_eq]; rfl
 generalize hL0:lr.take 12 ++ [if S.blk=0 then Value.nilFunc else .func (.func S.blk) ⟨[pt P 0 0]⟩ ⟨[]⟩,sv S.inn,mapV O].map Cl.v ++ lr.drop 15=L0 at hX0;have hL0len:L0.length=18:=by rw [<- hL0]; simp; omega
 have hL0at:∀ o,o < 12->L0[o]?=lr[o]?:=fun o ho=>by
  rw [<- hL0];have g:=get_put (l:=lr) (z:=[if S.blk=0 then Value.nilFunc else .func (.func S.blk) ⟨[pt P 0 0]⟩ ⟨[]⟩,sv S.inn,mapV O].map Cl.v) (o:=12) (by show 12 + 3 <= lr.length; omega) o;refine Eq.trans g ?_;rw [if_neg (by omega)]
 obtain ⟨ty0,g0⟩:=h.nr.at' [0] (.c L0) hX0;rw [h.pP] at g0;have g0:m.get P=some (.cells (cells φ [0] L0) 0 0 false ty0):=g0;obtain ⟨c0,q1,q2⟩:=h.wt.get hr0 (r:=0) rfl (o:=0) (by omega);have q2:okc (some .s) c0:=q2;cases c0 with
 | s _ _=>exact False.elim q2
 | v y0 =>
 obtain ⟨t0,rfl,_⟩:=q2;have hs0:sOf S.X [0] 0=t0:=by unfold sOf vOf; rw [X6i hr0,q1]; rfl
 have ld0:X8 false 1 (pt P 0 0) m=some (sv t0):=X12 g0 (by rw [Xm,hL0at 0 (by omega),q1]; rfl);have e0:bin .eql true true .str (sv t0) (.string ⟨#[]⟩)=some (.bool (decide (t0=[]))):=Qw _ _ _ [];have eb:Xg Qi [(0,1),(1,1),(2,1),(3,1),(4,1),(5,1),(6,1),(7,1),(8,1),(9,1),(10,1),(11,1)] []=some zD:=Eq.trans rfl rfl;have ep:Xg Q3 [(0,1),(1,1)] []=some (posV 0 0):=Eq.trans rfl rfl;delta Qau H D qr B T qq A qd E;unfold ansN devN;dsimp only;simp only [Xh,X9,X3,Nat.zero_add,ld0,e0];rw [hs0];by_cases ht:t0=[]
 ·rw [decide_eq_true ht,X7,if_pos ht,if_pos ht];obtain ⟨m1,m2,a1,a2,a3,a4,a5,_⟩:=Xg3 hA hB2 hB3 Qi rfl rfl 0 0;refine ⟨Qi,m2,?_,a5,rfl,rfl,Xjt _ _⟩;have a2:Xd 2 (pt p3 0 0) (posV 0 0) m1=some m2:=a2;simp only [eb,ep,X3,a1,Xo,a2,a3,a4];exact obP _ _ _ _
 ·rw [decide_eq_false ht,X6,if_neg ht,if_neg ht]
  -- the policies
  have a9:L0[9]?=some (.s (nOf S.X [0] 9) 3):=by
   rw [hL0at 9 (by omega)];obtain ⟨d9',q1,q2⟩:=h.wt.get hr0 (r:=0) rfl (o:=9) (by omega);have q2:okc (some (.l 12)) d9':=q2;cases d9' with
   | v y=>exact False.elim q2
   | s a b =>
    have q2:b=3:=q2;subst q2;have:nOf S.X [0] 9=a:=by unfold nOf; rw [X6i hr0,q1]; rfl
    rw [this]; exact q1
  have ld9:X8 false 1 (pt P 9 0) m=some (slV (φ [9,0]) (nOf S.X [0] 9) 3):=X12 g0 (by rw [Xm,a9]; rfl);have loop:∃ m',Q6u (d9 d) 18446744073709551616 (I (0:Nat)) (I (nOf S.X [0] 9)) (slV (φ [9,0]) (nOf S.X [0] 9) 3) (pt P 0 0) (pt p2 0 0) (pt p3 0 0) m=Qdq (d9 d) (pt P 0 0) (pt p2 0 0) (pt p3 0 0) m'/\Fb B m m'/\(∀ b,b < m.next->(∀ j,S.X [j * 3 + 1,9,0] ≠ none->b ≠ (φ [j * 3 + 1,9,0]).b)->m'.get b=m.get b)/\∀ j,j < nOf S.X [0] 9->Xqs S.X φ m' j:=by
   have hN:=(h.nr.ow [0] L0 9 _ 3 hX0 a9).1;by_cases hz:nOf S.X [0] 9=0
   ·refine ⟨m,?_,.refl _ _,fun b _ _=>rfl,fun j hj=>by omega⟩;rw [hz];unfold Q6u;delta C H D qc B T S Y X A qh;simp only [Q1d,X3,Int.lt_irrefl,decide_false,X6]
   ·exact Xhn hS d h hcap hBm (by omega) (nOf S.X [0] 9) 0 18446744073709551616 m (by omega) (by omega) (.refl _ _) (fun b _ _=>rfl) (fun j hj=>absurd hj (Nat.not_lt_zero _))
  obtain ⟨m1,e1,F1,hg,hDone⟩:=loop;have hPne:∀ j,S.X [j * 3 + 1,9,0] ≠ none->P ≠ (φ [j * 3 + 1,9,0]).b:=fun j hj e=>by
   have:=h.nr.inj [0] [j * 3 + 1,9,0] (by rw [hX0]; simp) (by rw [hX _ (fun e=>by injection e with e1 e2; cases e2)]; exact hj) (by rw [h.pP]; exact e);injection this with e1 e2;cases e2
  have hPlt:P < m.next:=by
   have:=h.nr.hi [0] (by rw [hX0]; simp);rw [h.pP] at this;exact this
  have pne:∀ j,S.X [j * 3 + 1,9,0] ≠ none->(φ [j * 3 + 1,9,0]).b ≠ p2/\(φ [j * 3 + 1,9,0]).b ≠ p3:=fun j hj=>hne _ (by rw [hX _ (fun e=>by injection e with e1 e2; cases e2)]; exact hj);have gP:m1.get P=some (.cells (cells φ [0] L0) 0 0 false ty0):=by rw [hg P hPlt hPne]; exact g0
  have hA1:Ans m1 p2 p3:={
   l2:=by have:=hA.l2; have:=F1.next; omega
   l3:=by have:=hA.l3; have:=F1.next; omega
   ne:=hA.ne
   g2:=by rw [hg p2 hA.l2 (fun j hj=>Ne.symm (pne j hj).1)]; exact hA.g2
   g3:=by rw [hg p3 hA.l3 (fun j hj=>Ne.symm (pne j hj).2)]; exact hA.g3 }
  have hdl:((cells φ [0] L0).take 12).length=12:=by rw [List.length_take,X10,hL0len]; rfl
  have ldd:X8 true 12 (pt P 0 0) m1=some (.agg ⟨(cells φ [0] L0).take 12⟩):=Xv gP (by rw [X10,hL0len]; omega) (by rw [List.drop_zero]);have hone:((cells φ [0] L0).take 12).all one=true:=by
   have:=cells_ok (φ:=φ) (k:=[0]) (h.nr.ok _ _ hX0);rw [List.all_eq_true] at this ⊢;exact fun y hy=>this y (List.mem_of_mem_take hy)
  obtain ⟨m2,m3,b1,b2,b3,b4,b5,_,b7⟩:=Xg3 hA1 hB2 hB3 ((cells φ [0] L0).take 12) hdl hone 0 0;have hk0:∀ j:Nat,[j * 3 + 1,9,0] ≠ [0]:=fun j e=>by injection e with e1 e2; cases e2
  have hrd:RdL B m3 (devT S.X) ((cells φ [0] L0).take 12):=by
   have e12:(cells φ [0] L0).take 12=(cells φ [0] lr).take 12:=by
    apply List.ext_getElem?;intro q;rw [List.getElem?_take,List.getElem?_take];by_cases hq:q < 12
    ·rw [if_pos hq,if_pos hq,Xm,Xm,hL0at q hq]
    ·rw [if_neg hq,if_neg hq]
   rw [e12];refine Xxt h (by have:=F1.next; have:=b5.next; omega) (fun k hk hj h0=>?_) (fun j hj lc hlc=>?_) hr0
   ·have hkb:bX P O S k ≠ none:=by rw [hX k h0]; exact hk
    rw [b7 _ (hne k hkb).1 (hne k hkb).2];exact hg _ (h.nr.hi k hkb) fun j hjn e=>hj j (h.nr.inj k [j * 3 + 1,9,0] hkb (by rw [hX _ (hk0 j)]; exact hjn) e)
   ·obtain ⟨ty,q⟩:=hDone j hj lc hlc;have hn':=pne j (by rw [hlc]; simp);exact ⟨ty,by rw [b7 _ hn'.1 hn'.2]; exact q⟩
  refine ⟨(cells φ [0] L0).take 12,m3,?_,F1.trans b5,hdl,hone,hrd⟩;delta Qjg H qr N A;simp only [Xh,X9,X3,Nat.zero_add,ld9,X2y];unfold Qjf;refine Eq.trans e1 ?_;delta Qdq qc qr B T qq A;have b2:Xd 2 (pt p3 0 0) (posV 0 0) m2=some m3:=b2;simp only [Xh,X9,X3,Nat.zero_add,ldd,ep,b1,Xo,b2,b3,b4];exact obP _ _ _ _
variable {c:Cx} {m0 m:Mem} {φ0 φ:Phi} {s0 s s':PSt} {cap δ:Nat} {ts:List Tmp} {x:Option Rs} {Q:Value->Nat->Phi->PSt->Prop} {v:Value} {cu:Cu}
def par0:List Cl:=[.v (sv []),.v (.int .u8 1),.s 0 1,.s 0 11,.s 0 2,.s 0 3,.s 0 7,.s 0 2,.s 0 2,.s 0 3,.s 0 3,.s 0 6,.v .nilFunc,.v (sv []),.v .nilFunc,.v (.bool false),.v (.bool false),.v (I 0)]
def X00:NX:=fun k=>if k=[0] then some (.c par0) else if k=[2] then some (setO []) else none
def st0:PSt:=⟨⟨0,none⟩,X00,0,[]⟩
theorem Xvd (h0:k ≠ [0]) (h2:k ≠ [2]):X00 k=none:=by unfold X00; rw [if_neg h0,if_neg h2]
theorem wt00:WT X00 where
 root:=⟨par0,rfl,rfl⟩
 set:=⟨[],rfl⟩
 no1:=rfl
 ty:=fun k l h=>by
  by_cases h0:k=[0]
  ·subst h0;cases h;refine ⟨0,rfl,fun o d hd=>?_⟩;have ho:o < 18:=(List.getElem?_eq_some_iff.mp hd).1;have:=fd_row (r:=0) (sz:=18) rfl 0 o ho;rw [Nat.zero_mul,Nat.zero_add] at this;rw [this];have ok:okL (rowT 0) par0:=by repeat' (first | exact trivial | exact ok_i _ _ | exact ok_b _ | exact ok_s (Nat.zero_le _) | exact ok_l _ _ | apply And.intro)
   exact X2t ok o d hd
  ·by_cases h2:k=[2]
   ·subst h2; cases h
   ·rw [Xvd h0 h2] at h; cases h
set_option maxHeartbeats 4000000 in
theorem li00 (hP:P < m.next) (hO:O < m.next) (hPO:P ≠ O) (hBP:B <= P) (hBO:B <= O) (gO:m.get O=some (.map [] 0)) (gP:m.get P=some (.cells [sv [],.int .u8 1,.slice none 0 0,.slice none 0 0,.slice none 0 0,.slice none 0 0,.slice none 0 0,.slice none 0 0,.slice none 0 0,.slice none 0 0,.slice none 0 0,.slice none 0 0,.nilFunc,sv [],mapV O,.bool false,.bool false,I 0] 0 0 false ty)) :
  LI B P O 0 m (fun k=>if k=[0] then ⟨P,0,0⟩ else ⟨O,0,0⟩) st0:=by
 have e0:bX P O st0 [0]=some (.c [.v (sv []),.v (.int .u8 1),.s 0 1,.s 0 11,.s 0 2,.s 0 3,.s 0 7,.s 0 2,.s 0 2,.s 0 3,.s 0 3,.s 0 6,.v .nilFunc,.v (sv []),.v (mapV O),.v (.bool false),.v (.bool false),.v (I 0)]):=by
  unfold bX;rw [X1b (show st0.X [0]=some (.c par0) from rfl),NX.set_eq];rfl
 have en:∀ k,k ≠ [0]->bX P O st0 k=X00 k:=fun k hk=>Xip (s:=st0) wt00 hk;have e2:bX P O st0 [2]=some (setO []):=en [2] (by decide);have dom:∀ k,bX P O st0 k ≠ none->k=[0]\/k=[2]:=fun k hk=>by
  by_cases h0:k=[0]
  ·exact .inl h0
  ·by_cases h2:k=[2]
   ·exact .inr h2
   ·rw [en k h0,Xvd h0 h2] at hk;exact absurd rfl hk
 have f0:(fun k=>if k=[0] then ⟨P,0,0⟩ else ⟨O,0,0⟩:Phi) [0]=⟨P,0,0⟩:=rfl;have f2:(fun k=>if k=[0] then ⟨P,0,0⟩ else ⟨O,0,0⟩:Phi) [2]=⟨O,0,0⟩:=rfl;exact {
  nr:={
   inj:=fun a b ha hb e=>by
    rcases dom a ha with rfl | rfl <;> rcases dom b hb with rfl | rfl
    ·rfl
    ·exact absurd e hPO
    ·exact absurd e (Ne.symm hPO)
    ·rfl
   hi:=fun a ha=>by
    rcases dom a ha with rfl | rfl
    ·exact hP
    ·exact hO
   r2:=fun a ha=>by
    rcases dom a ha with rfl | rfl
    ·show 0 < 2; omega
    ·show 0 < 2; omega
   at':=fun a ob ha=>by
    rcases dom a (by rw [ha]; simp) with rfl | rfl
    ·rw [e0] at ha;cases ha;exact ⟨ty,gP⟩
    ·rw [e2] at ha;cases ha;exact gO
   ok:=fun a l ha=>by
    rcases dom a (by rw [ha]; simp) with rfl | rfl
    ·rw [e0] at ha;cases ha;rfl
    ·rw [e2] at ha;cases ha
   ow:=fun a l i n sz ha hi=>by
    rcases dom a (by rw [ha]; simp) with rfl | rfl
    ·rw [e0] at ha;cases ha;have key:n=0/\0 < sz:=by
      have:i < 18:=(List.getElem?_eq_some_iff.mp hi).1;have hc:i=0\/i=1\/i=2\/i=3\/i=4\/i=5\/i=6\/i=7\/i=8\/i=9\/i=10\/i=11\/i=12\/i=13\/i=14\/i=15\/i=16\/i=17:=by omega
      rcases hc with rfl | rfl | rfl | rfl | rfl | rfl | rfl | rfl | rfl | rfl | rfl | rfl | rfl | rfl | rfl | rfl | rfl | rfl <;> cases hi <;> exact ⟨rfl,by decide⟩
     obtain ⟨rfl,hz⟩:=key;refine ⟨Nat.le_refl _,hz,?_⟩;rw [if_pos rfl,en _ (fun e=>by injection e with e1 e2; cases e2),Xvd (fun e=>by injection e with e1 e2; cases e2) (fun e=>by injection e with e1 e2; cases e2)]
    ·rw [e2] at ha;cases ha
   par:=fun i j a ha=>by
    rcases dom _ ha with e | e <;> (injection e with e1 e2; cases e2) }
  pP:=f0
  pO:=f2
  wt:=wt00
  il:=Nat.zero_le _
  hB:=fun k hk=>by
   rcases dom k hk with rfl | rfl
   ·exact hBP
   ·exact hBO
  bk:=.none rfl }
theorem Xfc (n:Nat):∀ (f:Nat) (rest:Str),rest.length <= n->(X32 n f rest).length <= rest.length/\∀ w ∈ X32 n f rest,w.1.length <= n/\w.2 <= n
 | 0,rest,h=>⟨Nat.zero_le _,fun w hw=>by cases hw⟩
 | f + 1,rest,h=>by
  unfold X32;by_cases hr:rest=[]
  ·rw [if_pos hr]; exact ⟨Nat.zero_le _,fun w hw=>by cases hw⟩
  ·rw [if_neg hr];have hcl:=Xfe 32 rest;have hlt:=Xjp hr;have htl:=X5h (cutO 32 rest).2.1;obtain ⟨i1,i2⟩:=Xfc n f (trimS (cutO 32 rest).2.1) (by omega);refine ⟨by rw [List.length_cons]; omega,fun w hw=>?_⟩;rcases List.mem_cons.mp hw with rfl | e
   ·exact ⟨by show (cutO 32 rest).1.length <= n; omega,by show n - rest.length + 1 <= n; have:=List.length_pos_iff.mpr hr; omega⟩
   ·exact i2 w e
theorem Xlq (N:Nat):∀ (rows:List Str) (i:Nat),(∀ r ∈ rows,r.length <= N)->(X11 rows i).length <= rows.length/\totL (X11 rows i) <= rows.length * (N + 3)/\∀ x ∈ X11 rows i,x.ws.length <= N/\∀ w ∈ x.ws,w.1.length <= N/\w.2 <= N
 | [],i,h=>⟨Nat.le_refl _,Nat.zero_le _,fun x hx=>by cases hx⟩
 | r :: l,i,h=>by
  have hr:=h r (List.mem_cons_self ..);obtain ⟨i1,i2,i3⟩:=Xlq N l (i + 1) fun r' hr'=>h r' (List.mem_cons_of_mem _ hr');have e:(r :: l).length * (N + 3)=l.length * (N + 3) + (N + 3):=by rw [List.length_cons,Nat.add_mul,Nat.one_mul]
  unfold X11;cases hp:rowP r with
  | none=>exact ⟨by rw [List.length_cons]; show (X11 l (i + 1)).length <= _; omega,by rw [e]; show totL (X11 l (i + 1)) <= _; omega,i3⟩
  | some y =>
   have hy:y.2.length <= N/\∀ w ∈ y.2,w.1.length <= N/\w.2 <= N:=by
    unfold rowP at hp;dsimp only at hp;split at hp
    ·cases hp
    ·cases hp;have ht:=X5h r;obtain ⟨a,b⟩:=Xfc r.length (r.length + 1) (trimS r) ht;exact ⟨by show (X32 r.length (r.length + 1) (trimS r)).length <= N; omega,fun w hw=>by
      have:=b w hw;omega⟩
   refine ⟨by show ((⟨y.1,i + 1,y.2⟩:Ln) :: X11 l (i + 1)).length <= _; simp only [List.length_cons]; omega,?_,fun x hx=>?_⟩
   ·rw [e];show y.2.length + 3 + totL (X11 l (i + 1)) <= _;omega
   ·rcases List.mem_cons.mp hx with rfl | e
    ·exact hy
    ·exact i3 x e
def Xq (s:Str):Nat × Nat × Int:=if (Xi s).2.2 ≠ 0 then ((Xi s).1,(Xi s).2.1,((Xi s).2.2:Int)) else ansN (X3h (linesT s) st0)
def Xza (s:Str):Prop:=(Xi s).2.2=0->∀ e,X3h (linesT s) st0=.error e->e.2.2 ≠ 0/\e.2.2 ≠ 5
def X54 (s:Str):List Tn:=if (Xi s).2.2 ≠ 0 then Xi5 else devN (X3h (linesT s) st0)
theorem c_Parse (hS:Xb0) (s:Str) (d:Nat) (m:Mem):∃ (dv:List Value) (m':Mem),TA (d + 10) Q97 [sv s] m=some (.tuple ⟨[.agg ⟨dv⟩,posV (Xq s).1 (Xq s).2.1,.int .i64 (Xq s).2.2]⟩,m')/\Fr [] m m'/\Xza s/\dv.length=12/\dv.all one=true/\RdL m.next m' (X54 s) dv/\TyD (totL (linesT s)) (X54 s):=by
 rw [Xh1];generalize hm0:withLow m m.next=m0;have hn0:m0.next=m.next:=by rw [<- hm0]; rfl
 generalize hm1:m0.push (.cells Qi 0 0 false (some (2 * Q17 + 1)))=m1;have hn1:m1.next=m0.next + 1:=by rw [<- hm1]; rfl
 have F1:Fb m.next m0 m1:=by rw [<- hm1]; exact Fb.push _ (by omega)
 have g1:m1.get m0.next=some (.cells Qi 0 0 false (some (2 * Q17 + 1))):=by rw [<- hm1,Mem.get_push,if_pos rfl]
 generalize hm2:m1.push (.cells Q3 0 0 false (some (2 * Q8 + 1)))=m2;have hn2:m2.next=m1.next + 1:=by rw [<- hm2]; rfl
 have F2:Fb m.next m0 m2:=by rw [<- hm2]; exact F1.trans (Fb.push _ (by omega))
 have g21:m2.get m0.next=some (.cells Qi 0 0 false (some (2 * Q17 + 1))):=by rw [<- hm2,Mem.get_push,if_neg (by omega)]; exact g1
 have g22:m2.get m1.next=some (.cells Q3 0 0 false (some (2 * Q8 + 1))):=by rw [<- hm2,Mem.get_push,if_pos rfl]
 have A2:Ans m2 m0.next m1.next:=⟨by omega,by omega,by omega,⟨_,_,g21,rfl⟩,⟨_,_,g22,rfl⟩⟩
 have hx:∃ (dv:List Value) (m':Mem),Qb8 (d9 d) (sv s) m0=some (.tuple ⟨[.agg ⟨dv⟩,posV (Xq s).1 (Xq s).2.1,.int .i64 (Xq s).2.2]⟩,m')/\Fb m.next m0 m'/\Xza s/\dv.length=12/\dv.all one=true/\RdL m.next m' (X54 s) dv/\TyD (totL (linesT s)) (X54 s):=by
  delta Qb8 S;simp only [Xp,X4,hm1,hm2];delta Qjk C T S U;unfold Xq X54;by_cases hk:(Xi s).2.2=0
  ·-- the lines are read
   rw [if_neg (fun h=>h hk),if_neg (fun h=>h hk)];obtain ⟨m3,L,l,a1,a2,a3,a4⟩:=c_Lines s hk (d + 5) m2;have a1:TA (d + 9) Qcs [sv s] m2=some (.tuple ⟨[slV L l.length 2,posV 0 0,I 0]⟩,m3):=a1;have hn3:=a4.next;have F3:Fb m.next m0 m3:=F2.trans (a4.toFb (by omega));obtain ⟨m4,n1,n2,n3,n4⟩:=X2c [] m3 (some (2 * Q8 + 1)) Q3 (v:=posV 0 0) (n:=2) rfl rfl rfl;have n1:Xd 2 (pt m3.next 0 0) (posV 0 0) (m3.push (.cells Q3 0 0 false (some (2 * Q8 + 1))))=some m4:=n1;have hn4:m4.next=m3.next + 1:=n3;have F4:Fb m.next m0 m4:=F3.trans (n2.toFb (by omega));have en:bin .neq true true .int (I 0) (.int .i64 0)=some (.bool false):=by rw [Q9y]; rfl
   simp only [a1,X4,ex0,ex1,ex2,X3,Xp,n1,Xo];delta Qgt L qj D qi qc B T qq A;simp only [en,X3,X6];delta Qjj B S zb;have eb1:Xg Qi [(0,1),(1,1),(2,1),(3,1),(4,1),(5,1),(6,1),(7,1),(8,1),(9,1),(10,1),(11,1)] [(1,.int .u8 1)]=some (.agg ⟨[sv [],.int .u8 1,.slice none 0 0,.slice none 0 0,.slice none 0 0,.slice none 0 0,.slice none 0 0,.slice none 0 0,.slice none 0 0,.slice none 0 0,.slice none 0 0,.slice none 0 0]⟩):=Eq.trans rfl rfl;have emk:X7e m4=(mapV m4.next,m4.push (.map [] 0)):=Eq.trans rfl rfl;generalize hm5:m4.push (.map [] 0)=m5 at emk;have hn5:m5.next=m4.next + 1:=by rw [<- hm5]; rfl
   have g5:m5.get m4.next=some (.map [] 0):=by rw [<- hm5,Mem.get_push,if_pos rfl]
   have F5:Fb m.next m4 m5:=by rw [<- hm5]; exact Fb.push _ (by omega)
   have eb2:Xg Qnd [(0,12),(12,1),(13,1),(14,1),(15,1),(16,1),(17,1)] [(0,.agg ⟨[sv [],.int .u8 1,.slice none 0 0,.slice none 0 0,.slice none 0 0,.slice none 0 0,.slice none 0 0,.slice none 0 0,.slice none 0 0,.slice none 0 0,.slice none 0 0,.slice none 0 0]⟩),(3,mapV m4.next)]=some (.agg ⟨[sv [],.int .u8 1,.slice none 0 0,.slice none 0 0,.slice none 0 0,.slice none 0 0,.slice none 0 0,.slice none 0 0,.slice none 0 0,.slice none 0 0,.slice none 0 0,.slice none 0 0,.nilFunc,sv [],mapV m4.next,.bool false,.bool false,I 0]⟩):=Eq.trans rfl rfl;have ec:(Value.cells (.agg ⟨[sv [],.int .u8 1,.slice none 0 0,.slice none 0 0,.slice none 0 0,.slice none 0 0,.slice none 0 0,.slice none 0 0,.slice none 0 0,.slice none 0 0,.slice none 0 0,.slice none 0 0,.nilFunc,sv [],mapV m4.next,.bool false,.bool false,I 0]⟩)).toList=[sv [],.int .u8 1,.slice none 0 0,.slice none 0 0,.slice none 0 0,.slice none 0 0,.slice none 0 0,.slice none 0 0,.slice none 0 0,.slice none 0 0,.slice none 0 0,.slice none 0 0,.nilFunc,sv [],mapV m4.next,.bool false,.bool false,I 0]:=rfl;simp only [eb1,X3,emk,X4,eb2];rw [ec,Xp]
   try rw [X4]
   generalize hm6:m5.push (.cells [sv [],.int .u8 1,.slice none 0 0,.slice none 0 0,.slice none 0 0,.slice none 0 0,.slice none 0 0,.slice none 0 0,.slice none 0 0,.slice none 0 0,.slice none 0 0,.slice none 0 0,.nilFunc,sv [],mapV m4.next,.bool false,.bool false,I 0] 0 0 false (some (2 * Qkq + 1)))=m6;have hn6:m6.next=m5.next + 1:=by rw [<- hm6]; rfl
   have g6P:m6.get m5.next=some (.cells [sv [],.int .u8 1,.slice none 0 0,.slice none 0 0,.slice none 0 0,.slice none 0 0,.slice none 0 0,.slice none 0 0,.slice none 0 0,.slice none 0 0,.slice none 0 0,.slice none 0 0,.nilFunc,sv [],mapV m4.next,.bool false,.bool false,I 0] 0 0 false (some (2 * Qkq + 1))):=by rw [<- hm6,Mem.get_push,if_pos rfl]
   have g6O:m6.get m4.next=some (.map [] 0):=by rw [<- hm6,Mem.get_push,if_neg (by omega)]; exact g5
   have F6:Fb m.next m0 m6:=by
    rw [<- hm6];exact (F4.trans F5).trans (Fb.push _ (by omega))
   have k6:∀ b,b < m3.next->m6.get b=m3.get b:=fun b hb=>by
    rw [<- hm6,Mem.get_push,if_neg (by omega),<- hm5,Mem.get_push,if_neg (by omega)];exact n2.get b hb (by simp)
   have LI0:LI m.next m5.next m4.next 0 m6 (fun k=>if k=[0] then ⟨m5.next,0,0⟩ else ⟨m4.next,0,0⟩) st0:=li00 (by omega) (by omega) (by omega) (by omega) (by omega) g6O g6P;have hs65:s.length <= 65536:=by
    rcases Nat.lt_or_ge 65536 s.length with q | q
    ·unfold Xi at hk;rw [if_pos q] at hk;cases hk
    ·exact q
   have hsl:(split 10 s).length <= s.length + 1:=by
    rw [X59 10 s.length s (Nat.le_refl _)];have:=List.count_le_length (a:=(10:UInt8)) (l:=s);omega
   obtain ⟨o1,o2,o3⟩:=Xlq 65536 (split 10 s) 0 (fun r hr=>by have:=X51 10 s r hr; omega);have hll:l.length=(linesT s).length:=by rw [<- a3,List.length_map]
   have o1:(linesT s).length <= (split 10 s).length:=o1;have o2:totL (linesT s) <= (split 10 s).length * 65539:=o2;have hprod:(split 10 s).length * 65539 <= 65537 * 65539:=Nat.mul_le_mul_right _ (by omega);have O6:OutAt 0 m6 L l:={
    out:=fun q=>by
     obtain ⟨a,b,c',ty,g⟩:=a2.out q;exact ⟨Nat.zero_le _,by omega,c',ty,by rw [k6 _ b]; exact g⟩
    ls:=fun y hy=>by
     obtain ⟨⟨b1,b2,b3,b4,ty,b5⟩,b6⟩:=a2.ls y hy;exact ⟨⟨b1,Nat.zero_le _,by omega,b4,ty,by rw [k6 _ b3]; exact b5⟩,b6⟩ }
   have A6:Ans m6 m0.next m1.next:={
    l2:=by omega
    l3:=by omega
    ne:=by omega
    g2:=by rw [k6 _ (by omega),a4.get _ (by omega) (by simp)]; exact A2.g2
    g3:=by rw [k6 _ (by omega),a4.get _ (by omega) (by simp)]; exact A2.g3 }
   have dom:∀ k,bX m5.next m4.next st0 k ≠ none->((fun k=>if k=[0] then ⟨m5.next,0,0⟩ else ⟨m4.next,0,0⟩:Phi) k).b=m5.next\/((fun k=>if k=[0] then ⟨m5.next,0,0⟩ else ⟨m4.next,0,0⟩:Phi) k).b=m4.next:=fun k hk=>by
    show (if k=[0] then (⟨m5.next,0,0⟩:Lc) else ⟨m4.next,0,0⟩).b=_\/(if k=[0] then (⟨m5.next,0,0⟩:Lc) else ⟨m4.next,0,0⟩).b=_;split
    ·exact .inl rfl
    ·exact .inr rfl
   have pr:∀ b,(b=m0.next\/b=m1.next\/(l ≠ []/\b=L.b)\/∃ x ∈ l,b=x.2.b)->∀ k,bX m5.next m4.next st0 k ≠ none->((fun k=>if k=[0] then ⟨m5.next,0,0⟩ else ⟨m4.next,0,0⟩:Phi) k).b ≠ b:=fun b hb k hk=>by
    have hb3:b < m3.next:=by
     rcases hb with rfl | rfl | ⟨q,rfl⟩ | ⟨y,hy,rfl⟩
     ·omega
     ·omega
     ·exact (a2.out q).2.1
     ·exact (a2.ls y hy).1.2.2.1
    rcases dom k hk with e | e <;> rw [e] <;> omega
   obtain ⟨p1,p2⟩:=Xev d (B:=m.next) (P:=m5.next) (O:=m4.next) (p2:=m0.next) (p3:=m1.next) L l (by omega) (fun y hy=>o3 y.1 (by
    show y.1 ∈ linesT s;rw [<- a3]; exact List.mem_map_of_mem hy)) (by omega) (by omega) l.length 0 18446744073709551616 0 m6 _ st0 (by omega) (by omega) (by omega) LI0 O6 A6 (by rw [List.drop_zero,a3]; omega) pr
   rw [List.drop_zero,a3] at p1 p2;delta Qji N A;simp only [X2y,X3];unfold Qjh;cases hf:X3h (linesT s) st0 with
   | error e =>
    obtain ⟨_,m',b1,b2⟩:=p1 e hf;exact ⟨Qi,m',b1,F6.trans b2,fun _ e' he'=>(p1 e' he').1,rfl,rfl,Xjt _ _,Xjj _⟩
   | ok S =>
    obtain ⟨m',cap',φ',b1,b2,b3,b4,b5,b6⟩:=p2 S hf;obtain ⟨dv,m'',c1,c2,c3⟩:=Xoz hS d b3 (by omega) (by have:=b2.next; omega) b4 (by omega) (by omega) b6;have hz:(ansN (.ok S)).1=0/\(ansN (.ok S)).2.1=0:=by
     unfold ansN;dsimp only;split <;> exact ⟨rfl,rfl⟩
    refine ⟨dv,m'',?_,F6.trans (b2.trans c2),fun _ e' he'=>(p1 e' he').1,c3.1,c3.2.1,c3.2.2,Xy0 b3 (by omega)⟩;rw [hz.1,hz.2];exact Eq.trans b1 c1
  ·rw [if_pos hk,if_pos hk];have a1:TA (d + 9) Qcs [sv s] m2=_:=c_Lines_bad s hk (d + 5) m2;obtain ⟨m3,n1,n2,n3,n4⟩:=X2c [] m2 (some (2 * Q8 + 1)) Q3 (v:=posV (Xi s).1 (Xi s).2.1) (n:=2) rfl rfl rfl;have n1:Xd 2 (pt m2.next 0 0) (posV (Xi s).1 (Xi s).2.1) (m2.push (.cells Q3 0 0 false (some (2 * Q8 + 1))))=some m3:=n1;have hn3:m3.next=m2.next + 1:=n3;have F3:Fb m.next m0 m3:=F2.trans (n2.toFb (by omega));have A3:Ans m3 m0.next m1.next:={
    l2:=by omega
    l3:=by omega
    ne:=by omega
    g2:=by rw [n2.get _ (by omega) (by simp)]; exact A2.g2
    g3:=by rw [n2.get _ (by omega) (by simp)]; exact A2.g3 }
   obtain ⟨m4,m5,b1,b2,b3,b4,b5,b6,b7⟩:=Xg3 (B:=m.next) A3 (by omega) (by omega) Qi rfl rfl (Xi s).1 (Xi s).2.1;have en:bin .neq true true .int (I (Xi s).2.2) (.int .i64 0)=some (.bool true):=by rw [Q9y,decide_eq_true (by omega)]
   have eb:Xg Qi [(0,1),(1,1),(2,1),(3,1),(4,1),(5,1),(6,1),(7,1),(8,1),(9,1),(10,1),(11,1)] []=some zD:=Eq.trans rfl rfl;have l3:X8 true 2 (pt m2.next 0 0) m3=some (posV (Xi s).1 (Xi s).2.1):=Xv n4 (by show 2 <= 2; omega) rfl;have l4:X8 true 2 (pt m2.next 0 0) m4=some (posV (Xi s).1 (Xi s).2.1):=Xv (by rw [b6 _ (by omega)]; exact n4) (by show 2 <= 2; omega) rfl;have ag:∀ mm,again (pur (some (posV (Xi s).1 (Xi s).2.1)) mm) (posV (Xi s).1 (Xi s).2.1)=true:=fun mm=>by
    show vsame 8 (posV (Xi s).1 (Xi s).2.1) (posV (Xi s).1 (Xi s).2.1)=true;simp [vsame,vsame.vsames]
   refine ⟨Qi,m5,?_,F3.trans b5,fun q=>absurd q hk,rfl,rfl,Xjt _ _,Xjj _⟩;simp only [a1,X4,ex0,ex1,ex2,X3,Xp,n1,Xo];delta Qgt L qj D qi qc B T qq A;simp only [en,X3,X7,eb,l3,b1,Xo,l4,ag,Bool.and_true,Xr,b2,b3,b4];exact obP _ _ _ _
 obtain ⟨dv,m',e1,e2,e3,e4,e5,e6,e7⟩:=hx;rw [<- hm0] at e1 e2;cases hv:refs m.next 8 (.tuple ⟨[.agg ⟨dv⟩,posV (Xq s).1 (Xq s).2.1,.int .i64 (Xq s).2.2]⟩) with
 | true =>
  obtain ⟨m'',q1,q2,q3⟩:=Xv9 e1 (Fb.toFr e2);have hall:∀ y ∈ dv,refs m.next 6 y=true:=by
   have:((dv.all (refs m.next 6)) && _)=true:=hv;rw [Bool.and_eq_true] at this;exact List.all_eq_true.mp this.1
  exact ⟨dv,m'',by rw [hm0] at q1; exact q1,q2,e3,e4,e5,e6.none m'' hall,e7⟩
 | false =>
  obtain ⟨m'',q1,q2,q3,q4⟩:=Xky e1 (Fb.toFr e2) hv;exact ⟨dv,m'',by rw [hm0] at q1; exact q1,q2,e3,e4,e5,⟨e6.1,fun i t c hi hc=>(e6.2 i t c hi hc).same (Nat.le_of_eq q3.symm) q4⟩,e7⟩
theorem Xrz:Xb0:=by
 intro L n d m cs ty hL hlen hn hint hone;cases n with
 | zero =>
  refine ⟨m,Xdp (o:=Qmt) (by kernel_rfl) ?_ (d + 9),Nat.le_refl _,Nat.le_refl _,.inl ⟨rfl,rfl⟩⟩;have e:slV L 0 15=.slice none 0 0:=if_pos rfl;rw [e];unfold Qmt Xgt;dsimp only;rw [if_pos ⟨rfl,rfl,rfl,rfl⟩]
 | succ n =>
  have e:slV L (n + 1) 15=.slice (some ⟨L.b,0,some 15⟩) (n + 1) (2 * L.ver + L.r):=if_neg (by omega);obtain ⟨hr,hlt,hg⟩:=hL (by omega);refine ⟨m.put L.b (.cells (srt cs 0 (n + 1)) L.ver 0 false ty),Xdp (o:=Qmt) (by kernel_rfl) ?_ (d + 9),Nat.le_of_eq (Mem.next_put _ _ _).symm,by rw [Mem.low_put]; exact Nat.min_le_left _ _,.inr ⟨by omega,fun y h1 h2=>by rw [Mem.low_put]; omega,by rw [Mem.low_put]; exact Nat.min_le_right _ _,fun b hb hne=>by rw [Mem.get_put,if_neg (Ne.symm hne)],by rw [Mem.get_put,if_pos rfl]⟩⟩;rw [e];unfold Qmt Xgt;dsimp only;rw [if_pos ⟨rfl,rfl,rfl,rfl⟩,if_pos ⟨rfl,by omega⟩,hg];dsimp only;rw [if_pos ⟨rfl,Nat.le_refl _,by omega,by omega,hone,fun i hi=>by
   obtain ⟨z,hz⟩:=hint i hi;rw [Nat.zero_add,hz]; rfl⟩]
def ends (ws:List Str):Str:=ws.flatMap fun w=>w ++ [10]
theorem X29 (w:Str) (ws:List Str):ends (w :: ws)=w ++ 10 :: ends ws:=by simp [ends,List.flatMap_cons,List.append_assoc]
theorem X4q (a b:List Str):ends (a ++ b)=ends a ++ ends b:=by unfold ends; exact List.flatMap_append
theorem Xag:∀ (ws:List Str) (y:Str),(∀ w ∈ ws,(10:UInt8) ∉ w)->split 10 (ends ws ++ y)=ws ++ split 10 y
 | [],y,_=>rfl
 | w :: ws,y,h=>by
  rw [X29,List.append_assoc,List.cons_append,Xq1 _ (h w (List.mem_cons_self ..)),Xag ws y fun w' hw=>h w' (List.mem_cons_of_mem _ hw)];rfl
theorem X7q:∀ (ws:List Str),(∀ w ∈ ws,(10:UInt8) ∉ w)->(ends ws).count 10=ws.length
 | [],_=>rfl
 | w :: ws,h=>by
  rw [X29,List.count_append,List.count_cons_self,X7q ws fun w' hw=>h w' (List.mem_cons_of_mem _ hw),List.count_eq_zero_of_not_mem (h w (List.mem_cons_self ..)),List.length_cons];omega
theorem Xai:∀ s:Str,ends (split 10 s)=s ++ [10]
 | []=>rfl
 | a :: l=>by
  have ih:=Xai l;rw [X4a];by_cases h:a=10
  ·rw [if_pos h,X29,ih,h]; rfl
  ·rw [if_neg h];cases hs:split 10 l with
   | nil=>exact absurd hs (X4v 10 l)
   | cons w ws =>
    rw [hs,X29] at ih;show ends ((a :: w) :: ws)=_;rw [X29,List.cons_append,ih]; rfl
theorem Xgd (s:Str):∀ w ∈ split 10 s,(10:UInt8) ∉ w:=(Xe2 10 s.length s (Nat.le_refl _) _ rfl).2
def adv:Str->Nat->Nat->Nat × Nat
 | [],l,k=>(l,k)
 | c :: r,l,k=>if c.toNat=10 then adv r (l + 1) 1 else adv r l (k + 1)
theorem X44 (c:UInt8) (r:Str) (l k:Nat):chk (c :: r) l k=if 4096 < l then (l,k,3) else if c.toNat=10 then chk r (l + 1) 1 else if c.toNat < 32\/126 < c.toNat then (l,k,70) else chk r l (k + 1):=rfl
theorem Xko (c:UInt8) (r:Str) (l k:Nat):adv (c :: r) l k=if c.toNat=10 then adv r (l + 1) 1 else adv r l (k + 1):=rfl
theorem toNat10 {c:UInt8}:c.toNat=10 ↔ c=10:=⟨fun h=>UInt8.toNat_inj.mp h,fun h=>by rw [h]; rfl⟩
theorem X37:∀ (u v:Str) (l k:Nat),chk (u ++ v) l k=if (chk u l k).2.2=0 then chk v (adv u l k).1 (adv u l k).2 else chk u l k
 | [],v,l,k=>rfl
 | c :: r,v,l,k=>by
  rw [List.cons_append,X44,X44,Xko];by_cases h1:4096 < l
  ·grind
  ·by_cases h2:c.toNat=10
   ·simp [if_neg,h1,if_pos,h2,X37]
   ·by_cases h3:c.toNat < 32\/126 < c.toNat
    ·grind
    ·simp [if_neg,h1,h2,h3,X37]
theorem X4t:∀ (u:Str) (l k:Nat),(adv u l k).1=l + u.count 10
 | [],l,k=>rfl
 | c :: r,l,k=>by
  rw [Xko];by_cases h:c.toNat=10
  ·rw [if_pos h,X4t r (l + 1) 1,toNat10.mp h,List.count_cons_self]; omega
  ·rw [if_neg h,X4t r l (k + 1),List.count_cons_of_ne (fun e=>h (toNat10.mpr e))]
theorem Xcq:∀ (s:Str) (l k:Nat),(chk s l k).2.2 ≠ 0->l <= (chk s l k).1/\(chk s l k).1 <= l + s.count 10/\((chk s l k).2.2=3\/(chk s l k).2.2=70)
 | [],l,k,h=>absurd rfl h
 | c :: r,l,k,h=>by
  rw [X44] at h ⊢;by_cases h1:4096 < l
  ·grind
  ·rw [if_neg h1] at h ⊢;by_cases h2:c.toNat=10
   ·rw [if_pos h2] at h ⊢;obtain ⟨a,b,e⟩:=Xcq r (l + 1) 1 h;rw [toNat10.mp h2,List.count_cons_self];exact ⟨by omega,by omega,e⟩
   ·rw [if_neg h2] at h ⊢;by_cases h3:c.toNat < 32\/126 < c.toNat
    ·grind
    ·rw [if_neg h3] at h ⊢;obtain ⟨a,b,e⟩:=Xcq r l (k + 1) h;rw [List.count_cons_of_ne (fun e=>h2 (toNat10.mpr e))];exact ⟨a,b,e⟩
theorem Xo9 {u v:Str} {l k:Nat} (h:(chk (u ++ v) l k).2.2=0):(chk u l k).2.2=0:=by
 rw [X37] at h;by_cases q:(chk u l k).2.2=0
 ·exact q
 ·grind
theorem X2i (r:Str) (l:List Str) (i:Nat):X11 (r :: l) i=match rowP r with | some x=>⟨x.1,i + 1,x.2⟩ :: X11 l (i + 1) | none=>X11 l (i + 1):=rfl
theorem X79 (x:Ln) (l:List Ln) (s:PSt):X3h (x :: l) s=match (X2m x s).cu.er with | some e=>.error (x.ln,e.1,e.2) | none=>X3h l (X2m x s):=rfl
theorem X5b:∀ (A B:List Str) (i:Nat),X11 (A ++ B) i=X11 A i ++ X11 B (i + A.length)
 | [],B,i=>rfl
 | r :: A,B,i=>by
  have ih:=X5b A B (i + 1);rw [show i + 1 + A.length=i + (r :: A).length by grind] at ih;rw [List.cons_append,X2i,X2i];cases rowP r with
  | none=>exact ih
  | some x=>dsimp only; rw [ih]; rfl
theorem rowP_nil:rowP []=none:=rfl
theorem X9f:∀ (A:List Str) (i:Nat) (x:Ln),x ∈ X11 A i->i < x.ln/\x.ln <= i + A.length/\∃ r,A[x.ln - (i + 1)]?=some r/\r ≠ []
 | [],i,x,h=>by cases h
 | r :: A,i,x,h=>by
  have rest:x ∈ X11 A (i + 1)->i < x.ln/\x.ln <= i + (r :: A).length/\∃ r',(r :: A)[x.ln - (i + 1)]?=some r'/\r' ≠ []:=fun q=>by
   obtain ⟨a,b,r',e,n⟩:=X9f A (i + 1) x q;refine ⟨by omega,by rw [List.length_cons]; omega,r',?_,n⟩;rw [show x.ln - (i + 1)=(x.ln - (i + 1 + 1)) + 1 by omega];exact e
  unfold X11 at h;cases hp:rowP r with
  | none=>rw [hp] at h; exact rest h
  | some y =>
   rw [hp] at h;rcases List.mem_cons.mp h with e | q
   ·subst e;refine ⟨Nat.lt_succ_self _,by show i + 1 <= _; rw [List.length_cons]; omega,r,?_,fun e=>?_⟩
    ·show (r :: A)[i + 1 - (i + 1)]?=some r;rw [Nat.sub_self]; rfl
    ·rw [e,rowP_nil] at hp; cases hp
   ·exact rest q
theorem Xg6:∀ (A B:List Ln) (s:PSt),X3h (A ++ B) s=match X3h A s with | .error e=>.error e | .ok S=>X3h B S
 | [],B,s=>rfl
 | x :: A,B,s=>by
  rw [List.cons_append,X79,X79];cases (X2m x s).cu.er with
  | some e=>rfl
  | none=>exact Xg6 A B (X2m x s)
theorem Xfs:∀ (A:List Ln) (s:PSt) (e:Nat × Nat × Int),X3h A s=.error e->∃ x ∈ A,x.ln=e.1
 | [],s,e,h=>by cases h
 | x :: A,s,e,h=>by
  unfold X3h at h;cases hr:(X2m x s).cu.er with
  | some q =>
   rw [hr] at h;cases h;exact ⟨x,List.mem_cons_self ..,rfl⟩
  | none =>
   rw [hr] at h;obtain ⟨y,a,b⟩:=Xfs A _ e h;exact ⟨y,List.mem_cons_of_mem _ a,b⟩
theorem Xmw {s:Str} (h:65536 < s.length):Xi s=(0,0,3):=if_pos h
theorem X3r {s:Str} (h:s.length <= 65536):Xi s=chk s 1 1:=if_neg (by omega)
theorem Xn3 {s:Str} (h:65536 < s.length):Xq s=(0,0,3):=by grind [Xq,Xmw]
theorem X49 {s:Str} (h:(Xi s).2.2 ≠ 0):Xq s=((Xi s).1,(Xi s).2.1,((Xi s).2.2:Int)):=if_pos h
theorem X73 {s:Str} (h:(Xi s).2.2=0):Xq s=ansN (X3h (linesT s) st0):=if_neg (fun q=>q h)
theorem Xmp (s:Str) (h0:(Xq s).2.2 ≠ 0) (h5:(Xq s).2.2 ≠ 5) (h3:(Xq s).2.2 ≠ 3):1 <= (Xq s).1/\(Xq s).1 <= (split 10 s).length /\
  ∀ y:Str,(ends ((split 10 s).take (Xq s).1) ++ y).length <= 65536->Xq (ends ((split 10 s).take (Xq s).1) ++ y)=Xq s \/
   y ≠ []/\((Xq (ends ((split 10 s).take (Xq s).1) ++ y)).2.2=3\/(Xq (ends ((split 10 s).take (Xq s).1) ++ y)).2.2=70/\(Xq s).1 < (Xq (ends ((split 10 s).take (Xq s).1) ++ y)).1):=by
 have hs:s.length <= 65536:=by
  rcases Nat.lt_or_ge 65536 s.length with q | q
  ·simp_all [Xn3,h3]
  ·exact q
 have hck:=X3r hs;have hlen:=X59 10 s.length s (Nat.le_refl _);have hno:=Xgd s;have hes:=Xai s;generalize hl:split 10 s=l at hlen hno hes;have hnt:∀ a,∀ w ∈ l.take a,(10:UInt8) ∉ w:=fun a w hw=>hno w (List.mem_of_mem_take hw);by_cases hc:(Xi s).2.2=0
 ·rw [X73 hc] at h0 h5 h3 ⊢;rw [hck] at hc;cases hf:X3h (linesT s) st0 with
  | ok S =>
   exfalso;rw [hf] at h0 h5;unfold ansN at h0 h5;dsimp only at h0 h5;by_cases q:sOf S.X [0] 0=[]
   ·grind
   ·grind
  | error e =>
   rw [hf] at h0 h5 h3;show 1 <= e.1/\e.1 <= l.length/\_;have hlT:linesT s=X11 l 0:=by unfold linesT; rw [hl]
   obtain ⟨x,hx,hxe⟩:=Xfs _ _ _ hf;rw [hlT] at hx hf;obtain ⟨x1,x2,r,x3,x4⟩:=X9f _ _ _ hx;rw [hxe] at x1 x2 x3;have hea:e.1 <= l.length:=by omega
   refine ⟨x1,hea,fun y hy=>?_⟩;have hy:(ends (l.take e.1) ++ y).length <= 65536:=hy;show Xq (ends (l.take e.1) ++ y)=e\/y ≠ []/\((Xq (ends (l.take e.1) ++ y)).2.2=3\/(Xq (ends (l.take e.1) ++ y)).2.2=70/\e.1 < (Xq (ends (l.take e.1) ++ y)).1);have htl:(l.take e.1).length=e.1:=by grind
   -- the rows up to the error
   have x3:l[e.1 - 1]?=some r:=by rw [<- x3]
   have htk:l.take e.1=l.take (e.1 - 1) ++ [r]:=by
    rw [show e.1=(e.1 - 1) + 1 by omega,List.take_add_one,show e.1 - 1 + 1 - 1=e.1 - 1 by omega,x3]; rfl
   have hte:ends (l.take e.1)=ends (l.take (e.1 - 1)) ++ r ++ [10]:=by rw [htk,X4q,X29,List.append_assoc]; rfl
   have hr10:(10:UInt8) ∉ r:=hno r (List.mem_of_getElem? x3);have hpre:∃ v,(ends (l.take (e.1 - 1)) ++ r) ++ v=s:=by
    have p1:ends (l.take (e.1 - 1)) ++ r <+: s ++ [10]:=⟨[10] ++ ends (l.drop e.1),by
     rw [<- hes,<- List.append_assoc,<- hte,<- X4q,List.take_append_drop]⟩
    have p2:s <+: s ++ [10]:=⟨[10],rfl⟩
    refine List.prefix_of_prefix_length_le p1 p2 ?_;obtain ⟨w,hw⟩:=(⟨ends (l.drop e.1),by rw [<- hte,<- X4q,List.take_append_drop,hes]⟩:∃ w,ends (l.take (e.1 - 1)) ++ r ++ [10] ++ w=s ++ [10])
    have:=congrArg List.length hw;simp only [List.length_append,List.length_cons,List.length_nil] at this ⊢;omega
   obtain ⟨v,hv⟩:=hpre;generalize hu:ends (l.take (e.1 - 1))=u at hte hv;have k1:(chk (u ++ r) 1 1).2.2=0:=by rw [<- hv] at hc; exact Xo9 hc
   have k2:(chk (u ++ r ++ [10]) 1 1).2.2=0:=by
    rw [X37,if_pos k1,X44];have hlast:r=r.dropLast ++ [r.getLast x4]:=(List.dropLast_concat_getLast x4).symm;have hb:r.getLast x4 ≠ 10:=fun q=>hr10 (by grind);have k3:=k1;rw [hlast,<- List.append_assoc,X37] at k3;have k4:(chk (u ++ r.dropLast) 1 1).2.2=0:=by
     by_cases q:(chk (u ++ r.dropLast) 1 1).2.2=0
     ·exact q
     ·grind
    rw [if_pos k4,X44,X4t] at k3;have k5:(adv (u ++ r) 1 1).1=1 + (u ++ r.dropLast).count 10:=by
     rw [X4t];have:(u ++ r).count 10=(u ++ r.dropLast).count 10:=by
      rw [List.count_append,List.count_append,List.count_eq_zero_of_not_mem hr10,List.count_eq_zero_of_not_mem fun q=>hr10 ((List.dropLast_sublist r).subset q)]
     rw [this]
    rw [k5];by_cases q:4096 < 1 + (u ++ r.dropLast).count 10
    ·rw [if_pos q] at k3; cases k3
    ·rw [if_neg q]; rfl
   rw [<- hte] at k2;have hadv:(adv (ends (l.take e.1)) 1 1).1=1 + e.1:=by rw [X4t,X7q _ (hnt _),htl]
   have hch:chk (ends (l.take e.1) ++ y) 1 1=chk y (1 + e.1) (adv (ends (l.take e.1)) 1 1).2:=by rw [X37,if_pos k2,hadv]
   have hcy:=X3r hy;rw [hch] at hcy;by_cases hyk:(chk y (1 + e.1) (adv (ends (l.take e.1)) 1 1).2).2.2=0
   ·left;rw [<- hcy] at hyk;rw [X73 hyk];have e1:linesT (ends (l.take e.1) ++ y)=X11 (l.take e.1) 0 ++ X11 (split 10 y) (0 + (l.take e.1).length):=by
     unfold linesT;rw [Xag _ _ (hnt _),X5b]
    have e2:X3h (X11 (l.take e.1) 0) st0=.error e:=by
     have q:l=l.take e.1 ++ l.drop e.1:=(List.take_append_drop _ _).symm;rw [q,X5b,Xg6] at hf;cases hg:X3h (X11 (l.take e.1) 0) st0 with
     | error e'=>rw [hg] at hf; exact hf
     | ok S =>
      exfalso;rw [hg] at hf;obtain ⟨z,z1,z2⟩:=Xfs _ _ _ hf;obtain ⟨z3,_⟩:=X9f _ _ _ z1;omega
    rw [e1,Xg6,e2];rfl
   ·right;refine ⟨fun q=>hyk (by rw [q]; rfl),?_⟩;obtain ⟨a,_,b⟩:=Xcq _ _ _ hyk;rw [<- hcy] at hyk a b;rw [X49 hyk];rcases b with b | b
    ·left;show (((Xi (ends (l.take e.1) ++ y)).2.2:Nat):Int)=3;rw [b]; rfl
    ·right;refine ⟨?_,?_⟩
     ·show (((Xi (ends (l.take e.1) ++ y)).2.2:Nat):Int)=70;rw [b]; rfl
     ·show e.1 < (Xi (ends (l.take e.1) ++ y)).1;omega
 ·rw [X49 hc] at h3 ⊢;rw [hck] at hc h3 ⊢;obtain ⟨a1,a2,a3⟩:=Xcq _ _ _ hc;generalize hP:chk s 1 1=p at hc h3 a1 a2 a3 hck;show 1 <= p.1/\p.1 <= l.length/\_;have hpl:p.1 <= l.length:=by omega
  have htl:(l.take p.1).length=p.1:=by rw [List.length_take]; omega
  refine ⟨a1,hpl,fun y hy=>.inl ?_⟩;have hy:(ends (l.take p.1) ++ y).length <= 65536:=hy;show Xq (ends (l.take p.1) ++ y)=(p.1,p.2.1,(p.2.2:Int));have e1:chk (ends (l.take p.1) ++ ends (l.drop p.1)) 1 1=p:=by
   rw [<- X4q,List.take_append_drop,hes,X37,hP,if_neg hc]
  have e2:(chk (ends (l.take p.1)) 1 1).2.2 ≠ 0:=fun q=>by
   rw [X37,if_pos q,X4t,X7q _ (hnt _),htl] at e1;obtain ⟨b,_⟩:=Xcq _ _ _ (by rw [e1]; exact hc);rw [e1] at b;omega
  have e3:chk (ends (l.take p.1)) 1 1=p:=by rw [X37,if_neg e2] at e1; exact e1
  have e4:Xi (ends (l.take p.1) ++ y)=p:=by rw [X3r hy,X37,if_neg e2,e3]
  rw [X49 (by grind),e4]
theorem Xa9 (G:Gt) (B:Nat) (s:Str) (hs:s.length <= 4194304):∀ (rest cur pre:Str) (ws:List Str) (v:Value) (m:Mem) (k:Nat),s=pre ++ cur ++ rest->rest.length + 1 < k->ws.length <= pre.length->B <= m.next->SA B m v ws ->
  ∃ v' m',Q1q G k (I (pre.length + cur.length:Nat)) (sv s) v (I pre.length) m=some (v',m')/\Fb B m m'/\SA B m' v' (ws ++ spl 10 cur rest)
 | [],cur,pre,ws,v,m,k,he,hk,hw,hB,hS=>by
  obtain ⟨k,rfl⟩:∃ j,k=j + 2:=⟨k - 2,by omega⟩
  have hl:s.length=pre.length + cur.length:=by rw [he]; simp
  obtain ⟨m2,v',m',k1,k2,k3,k4⟩:=hS.app (e:=Q4) hB (by omega) cur;refine ⟨v',m',?_,k3,k4⟩;have w1:IntKind.i64.wrap (((pre.length + cur.length:Nat):Int) + 1)=((pre.length + cur.length + 1:Nat):Int):=by grind [IntWalk.i64_in]
  have hsub:=Xrk pre cur [];rw [<- he] at hsub;have e0:Value.string ⟨#[]⟩=sv []:=rfl;unfold Q1q;delta Qah Q7p Q7o Q D B N X qg qp A qf E;simp only [X36,X3,Qlh,Xt,hl,Int.le_refl,if_true,Q79,X7,Xjo s pre.length (pre.length + cur.length) (by omega) (by omega),hsub,e0,k1,X4,k2,Q35,w1];unfold Q1q;delta Qf8 D N K;have hn:¬ (((pre.length + cur.length + 1:Nat):Int) <= ((pre.length + cur.length:Nat):Int)):=by omega
  simp only [X36,X3,Qlh,Xt,hl,if_neg hn]
 | a :: rest,cur,pre,ws,v,m,k,he,hk,hw,hB,hS=>by
  obtain ⟨k,rfl⟩:∃ j,k=j + 1:=⟨k - 1,by omega⟩
  have hl:s.length=pre.length + cur.length + (rest.length + 1):=by grind
  have hle:((pre.length + cur.length:Nat):Int) <= (s.length:Int):=by omega
  have hne:¬ ((pre.length + cur.length:Nat):Int)=(s.length:Int):=by omega
  have w1:IntKind.i64.wrap (((pre.length + cur.length:Nat):Int) + 1)=((pre.length + cur.length + 1:Nat):Int):=by grind [IntWalk.i64_in]
  have hix:s[pre.length + cur.length]'(by omega)=a:=by
   grind
  have e0:Value.string ⟨#[]⟩=sv []:=rfl;unfold Q1q;delta Qah Q7p Q7o Q D B N X qg qp A qf E;unfold spl;simp only [X36,X3,Qlh,Xt,if_pos hle,Q79,if_neg hne,X56 s .i64 (pre.length + cur.length) (by omega),hix];by_cases hc:a=10
  ·obtain ⟨m2,v',m',k1,k2,k3,k4⟩:=hS.app (e:=Q4) hB (by omega) cur;have hsub:=Xrk pre cur (a :: rest);rw [<- he] at hsub;have hc2:((a.toNat:Int)=10):=by rw [hc]; rfl
   rw [if_pos hc,if_pos hc2];simp only [Xjo s pre.length (pre.length + cur.length) (by omega) (by omega),hsub,e0,X3,k1,X4,k2,Q35,w1];obtain ⟨v2,m3,q1,q2,q3⟩:=Xa9 G B s hs rest [] (pre ++ cur ++ [a]) (ws ++ [cur]) v' m' k (by rw [he]; simp) (by grind) (by simp; omega) (Nat.le_trans hB k3.next) k4;refine ⟨v2,m3,?_,k3.trans q2,by grind⟩;rw [<- q1];simp [Nat.add_assoc]
  ·have hc2:¬ ((a.toNat:Int)=10):=fun h=>hc (by apply UInt8.toNat_inj.mp; have:(10:UInt8).toNat=10:=rfl; omega);rw [if_neg hc,if_neg hc2];simp only [Q35,X3,w1];obtain ⟨v2,m3,q1,q2,q3⟩:=Xa9 G B s hs rest (cur ++ [a]) pre ws v m k (by rw [he]; simp) (by grind) hw hB hS;refine ⟨v2,m3,?_,q2,q3⟩;rw [<- q1];simp [Nat.add_assoc]
theorem c_cut13 (s:Str) (hs:s.length <= 4194304) (d:Nat) (m:Mem):∃ v m1,TA (d + 1) Q96 [sv s] m=some (v,m1)/\Fr [] m m1/\SL m1 v (split 10 s)/\refs m.next 8 v=false:=by
 rw [X9t];obtain ⟨v',m',k1,k2,k3⟩:=Xa9 ⟨TA d,18446744073709551616⟩ m.next s hs s [] [] [] (.slice none 0 0) (withLow m m.next) 18446744073709551616 rfl (by omega) (Nat.le_refl _) (Nat.le_refl _) (.inl ⟨rfl,rfl⟩);rw [List.nil_append,Xw6] at k3;obtain ⟨q1,q2⟩:=k3.sl (X4v 10 s);have hx:Q4s ⟨TA d,18446744073709551616⟩ (sv s) (withLow m m.next)=some (v',m'):=by
  delta Q4s Qfc Qfb Qfa Qf9 A;exact k1
 obtain ⟨m2,r1,r2,r3,r4⟩:=Xtw (m:=m) hx k2 q2;exact ⟨v',m2,r1,r2,SL.same q1 (by omega) r4,q2⟩
variable {c c':Cx} {cu cu':Cu} {s s':PSt}
def RX (c c':Cx):Prop:=c.ws.map (·.1)=c'.ws.map (·.1)
def RC (a b:Cu):Prop:=a.pl=b.pl/\a.er.map (·.2)=b.er.map (·.2)
def RP {α:Type} (a b:α × Cu):Prop:=a.1=b.1/\RC a.2 b.2
def RS (a b:PSt):Prop:=a.X=b.X/\a.blk=b.blk/\a.inn=b.inn/\RC a.cu b.cu
theorem RX.len (h:RX c c'):c.ws.length=c'.ws.length:=by have:=congrArg List.length h; simpa using this
theorem RX.wd (h:RX c c') (i:Nat):(wdC c i).1=(wdC c' i).1:=by
 have e:(c.ws.map (·.1))[i]?=(c'.ws.map (·.1))[i]?:=by rw [show c.ws.map (·.1)=c'.ws.map (·.1) from h]
 rw [List.getElem?_map,List.getElem?_map] at e;unfold wdC;cases h1:c.ws[i]? with
 | none=>cases h2:c'.ws[i]? with
  | none=>rfl
  | some y=>rw [h1,h2] at e; cases e
 | some x=>cases h2:c'.ws[i]? with
  | none=>rw [h1,h2] at e; cases e
  | some y =>
   rw [h1,h2] at e;exact Option.some.inj e
theorem RC.nn (h:RC cu cu'):cu.er.isNone=cu'.er.isNone:=by
 have:=h.2;cases h1:cu.er <;> cases h2:cu'.er <;> rw [h1,h2] at this <;> first | rfl | cases this
theorem Xhd (hx:RX c c') (h:RC cu cu'):X27 c cu=X27 c' cu':=by unfold X27; rw [h.nn,h.1,hx.len]
theorem Xq6 (h:RC cu cu') (a b:Nat) (e:Int):RC (X3b cu a e) (X3b cu' b e):=by
 unfold X3b;rw [h.nn];split
 ·exact ⟨h.1,rfl⟩
 ·exact h
theorem Xbo (h:RC cu cu') (e:Int):RC (badC c cu e) (badC c' cu' e):=Xq6 h _ _ _
theorem X4e (hx:RX c c') (h:RC cu cu'):RP (Xf c cu) (Xf c' cu'):=by
 unfold Xf;rw [Xhd hx h];split
 ·exact ⟨by rw [h.1]; exact hx.wd _,by show cu.pl + 1=cu'.pl + 1; rw [h.1],h.2⟩
 ·exact ⟨rfl,Xq6 h _ _ _⟩
theorem r_is (hx:RX c c') (h:RC cu cu') (w:Str):RP (isC c cu w) (isC c' cu' w):=by
 unfold isC;rw [Xhd hx h,h.1,hx.wd];split
 ·exact ⟨rfl,rfl,h.2⟩
 ·exact ⟨rfl,h⟩
theorem Xuc (hx:RX c c') (h:RC cu cu') (w:Str):RC (Xbm c cu w) (Xbm c' cu' w):=by
 obtain ⟨e,r⟩:=X4e hx h;unfold Xbm;rw [e];split
 ·exact r
 ·exact Xbo r _
theorem X74 (hx:RX c c') (h:RC cu cu'):RP (X17 c cu) (X17 c' cu'):=by
 obtain ⟨e,r⟩:=X4e hx h;unfold X17;rw [e];refine ⟨rfl,?_⟩;show RC (if _ then _ else _) (if _ then _ else _);split
 ·exact r
 ·exact Xbo r _
theorem Xwh (hx:RX c c') (h:RC cu cu'):RP (vrfC c cu) (vrfC c' cu'):=by
 obtain ⟨e,r⟩:=r_is hx h [118,114,102];unfold vrfC;rw [e];split
 ·exact X74 hx r
 ·exact ⟨rfl,r⟩
theorem Xbp (hx:RX c c') (h:RC cu cu') (l:List Str):RP (oneC c cu l) (oneC c' cu' l):=by
 obtain ⟨e,r⟩:=X4e hx h;unfold oneC;rw [e];split
 ·exact ⟨rfl,r⟩
 ·exact ⟨rfl,Xbo r _⟩
theorem X1k (hx:RX c c') (h:RC cu cu') (lo:Int) (hi:Nat):RP (Xb c cu lo hi) (Xb c' cu' lo hi):=by
 obtain ⟨e,r⟩:=X4e hx h;unfold Xb;rw [e];split
 ·refine ⟨rfl,?_⟩;show RC (if _ then _ else _) (if _ then _ else _);split
  ·exact r
  ·exact Xbo r _
 ·exact ⟨rfl,Xbo r _⟩
theorem X83 (hx:RX c c') (h:RC cu cu'):RP (X1e c cu) (X1e c' cu'):=by
 obtain ⟨e,r⟩:=X4e hx h;unfold X1e;rw [e];split
 ·exact ⟨rfl,r⟩
 ·exact ⟨rfl,Xbo r _⟩
theorem Xy5 (hx:RX c c') (h:RC cu cu'):RP (hopC c cu) (hopC c' cu'):=by
 obtain ⟨e,r⟩:=X83 hx h;unfold hopC;rw [e];refine ⟨rfl,?_⟩;show RC (if _ then _ else _) (if _ then _ else _);split
 ·exact Xbo r _
 ·exact r
theorem Xkp (hx:RX c c') (h:RC cu cu') (w:Bool):RP (X35 c cu w) (X35 c' cu' w):=by
 obtain ⟨e,r⟩:=X83 hx h;unfold X35;rw [e]
 (repeat' split) <;> first | exact ⟨rfl,r⟩ | exact ⟨rfl,Xbo r _⟩
theorem Xv5 (h:RC cu cu') (a:Nat) (b:Int):RC (netC c cu a b) (netC c' cu' a b):=by
 grind [netC,Xbo]
theorem r_ge (hx:RX c c') (h:RC cu cu') (b:Nat):RP (geR c cu b) (geR c' cu' b):=by
 obtain ⟨e,r⟩:=r_is hx h [103,101];obtain ⟨e2,r2⟩:=X1k hx r b 32;unfold geR;rw [e];split
 ·exact ⟨by rw [e2],r2⟩
 ·exact ⟨rfl,r⟩
theorem r_le (hx:RX c c') (h:RC cu cu') (g l:Int):RP (leR c cu g l) (leR c' cu' g l):=by
 obtain ⟨e,r⟩:=r_is hx h [108,101];unfold leR;rw [e];split
 ·exact X1k hx r _ _
 ·exact ⟨rfl,r⟩
theorem r_pf (hx:RX c c') (h:RC cu cu'):RP (pfR c cu) (pfR c' cu'):=by
 obtain ⟨e,r⟩:=X4e hx h;unfold pfR;rw [e];refine ⟨rfl,?_⟩;show RC (if _ then _ else _) (if _ then _ else _);split
 ·exact r
 ·grind [Xbo]
theorem Xwx (hx:RX c c') (h:RC cu cu'):RP (X42 c cu) (X42 c' cu'):=by
 obtain ⟨e,r⟩:=Xbp hx h [[112,101,114,109,105,116],[100,101,110,121]];obtain ⟨e2,r2⟩:=r_pf hx r;unfold X42;dsimp only;rw [e,e2];obtain ⟨e3,r3⟩:=r_ge hx r2 (pfR c' (oneC c' cu' [[112,101,114,109,105,116],[100,101,110,121]]).2).1.2.1;rw [e3];obtain ⟨e4,r4⟩:=r_le hx r3 (geR c' (pfR c' (oneC c' cu' [[112,101,114,109,105,116],[100,101,110,121]]).2).2 (pfR c' (oneC c' cu' [[112,101,114,109,105,116],[100,101,110,121]]).2).1.2.1).1.1 (geR c' (pfR c' (oneC c' cu' [[112,101,114,109,105,116],[100,101,110,121]]).2).2 (pfR c' (oneC c' cu' [[112,101,114,109,105,116],[100,101,110,121]]).2).1.2.1).1.2;rw [e4];exact ⟨rfl,r4⟩
variable {c c':Cx} {cu cu':Cu} {s s':PSt}
theorem Xup (hx:RX c c') (h:RC cu cu'):RP (X7w c cu) (X7w c' cu'):=by
 unfold X7w;have R1:=r_is hx h [97,110,121];generalize isC c cu [97,110,121]=x at R1 ⊢;generalize isC c' cu' [97,110,121]=x' at R1 ⊢;obtain ⟨v1,u1⟩:=x;obtain ⟨v1',u1'⟩:=x';obtain ⟨rfl,r1⟩:v1=v1'/\RC u1 u1':=R1;dsimp only;have R2:=r_is hx r1 [104,111,115,116];generalize isC c u1 [104,111,115,116]=x at R2 ⊢;generalize isC c' u1' [104,111,115,116]=x' at R2 ⊢;obtain ⟨v2,u2⟩:=x;obtain ⟨v2',u2'⟩:=x';obtain ⟨rfl,r2⟩:v2=v2'/\RC u2 u2':=R2;dsimp only;have R3:=X83 hx r2;generalize X1e c u2=x at R3 ⊢;generalize X1e c' u2'=x' at R3 ⊢;obtain ⟨v3,u3⟩:=x;obtain ⟨v3',u3'⟩:=x';obtain ⟨rfl,r3⟩:v3=v3'/\RC u3 u3':=R3;dsimp only;have R4:=Xkp hx r3 true;generalize X35 c u3 true=x at R4 ⊢;generalize X35 c' u3' true=x' at R4 ⊢;obtain ⟨v4,u4⟩:=x;obtain ⟨v4',u4'⟩:=x';obtain ⟨rfl,r4⟩:v4=v4'/\RC u4 u4':=R4;dsimp only
 (repeat' split) <;> first | exact ⟨rfl,r1⟩ | exact ⟨rfl,r3⟩ | exact ⟨rfl,Xv5 r4 _ _⟩
theorem Xpi (hx:RX c c') (h:RC cu cu') (p:Int):RP (X2g c cu p) (X2g c' cu' p):=by
 unfold X2g;have R1:=r_is hx h [101,113];generalize isC c cu [101,113]=x at R1 ⊢;generalize isC c' cu' [101,113]=x' at R1 ⊢;obtain ⟨v1,u1⟩:=x;obtain ⟨v1',u1'⟩:=x';obtain ⟨rfl,r1⟩:v1=v1'/\RC u1 u1':=R1;dsimp only;have R2:=X1k hx r1 0 65535;generalize Xb c u1 0 65535=x at R2 ⊢;generalize Xb c' u1' 0 65535=x' at R2 ⊢;obtain ⟨v2,u2⟩:=x;obtain ⟨v2',u2'⟩:=x';obtain ⟨rfl,r2⟩:v2=v2'/\RC u2 u2':=R2;dsimp only;have R3:=r_is hx r1 [114,97,110,103,101];generalize isC c u1 [114,97,110,103,101]=x at R3 ⊢;generalize isC c' u1' [114,97,110,103,101]=x' at R3 ⊢;obtain ⟨v3,u3⟩:=x;obtain ⟨v3',u3'⟩:=x';obtain ⟨rfl,r3⟩:v3=v3'/\RC u3 u3':=R3;dsimp only;have R4:=X1k hx r3 0 65535;generalize Xb c u3 0 65535=x at R4 ⊢;generalize Xb c' u3' 0 65535=x' at R4 ⊢;obtain ⟨v4,u4⟩:=x;obtain ⟨v4',u4'⟩:=x';obtain ⟨rfl,r4⟩:v4=v4'/\RC u4 u4':=R4;dsimp only;have R5:=X1k hx r4 v4 65535;generalize Xb c u4 v4 65535=x at R5 ⊢;generalize Xb c' u4' v4 65535=x' at R5 ⊢;obtain ⟨v5,u5⟩:=x;obtain ⟨v5',u5'⟩:=x';obtain ⟨rfl,r5⟩:v5=v5'/\RC u5 u5':=R5;dsimp only
 (repeat' split) <;> first | exact ⟨rfl,h⟩ | exact ⟨rfl,r2⟩ | exact ⟨rfl,r5⟩ | exact ⟨rfl,r3⟩
theorem r_me (hx:RX c c') (h:RC cu cu'):RP (meR c cu) (meR c' cu'):=by
 unfold meR;have R1:=r_is hx h [109,101,116,114,105,99];generalize isC c cu [109,101,116,114,105,99]=x at R1 ⊢;generalize isC c' cu' [109,101,116,114,105,99]=x' at R1 ⊢;obtain ⟨v1,u1⟩:=x;obtain ⟨v1',u1'⟩:=x';obtain ⟨rfl,r1⟩:v1=v1'/\RC u1 u1':=R1;dsimp only;split
 ·exact X1k hx r1 _ _
 ·exact ⟨rfl,r1⟩
theorem r_rm (hx:RX c c') (h:RC cu cu'):RP (rmR c cu) (rmR c' cu'):=by
 unfold rmR;have R1:=r_is hx h [114,111,117,116,101,45,109,97,112];generalize isC c cu [114,111,117,116,101,45,109,97,112]=x at R1 ⊢;generalize isC c' cu' [114,111,117,116,101,45,109,97,112]=x' at R1 ⊢;obtain ⟨v1,u1⟩:=x;obtain ⟨v1',u1'⟩:=x';obtain ⟨rfl,r1⟩:v1=v1'/\RC u1 u1':=R1;dsimp only;split
 ·exact X74 hx r1
 ·exact ⟨rfl,r1⟩
theorem r_ty (hx:RX c c') (h:RC cu cu') (t:Bool):RP (tyR c cu t) (tyR c' cu' t):=by
 unfold tyR;have R1:=r_is hx h [116,121,112,101];generalize isC c cu [116,121,112,101]=x at R1 ⊢;generalize isC c' cu' [116,121,112,101]=x' at R1 ⊢;obtain ⟨v1,u1⟩:=x;obtain ⟨v1',u1'⟩:=x';obtain ⟨rfl,r1⟩:v1=v1'/\RC u1 u1':=R1;dsimp only;split
 ·split
  ·exact X1k hx r1 _ _
  ·exact ⟨rfl,r1⟩
 ·exact ⟨rfl,h⟩
theorem Xkl (hx:RX c c') (h:RC cu cu') (third:Str) (fr:Nat) (t:Bool):RP (X2e c cu third fr t) (X2e c' cu' third fr t):=by
 unfold X2e;have R1:=Xbp hx h [[99,111,110,110,101,99,116,101,100],[115,116,97,116,105,99],third];generalize oneC c cu [[99,111,110,110,101,99,116,101,100],[115,116,97,116,105,99],third]=x at R1 ⊢;generalize oneC c' cu' [[99,111,110,110,101,99,116,101,100],[115,116,97,116,105,99],third]=x' at R1 ⊢;obtain ⟨v1,u1⟩:=x;obtain ⟨v1',u1'⟩:=x';obtain ⟨rfl,r1⟩:v1=v1'/\RC u1 u1':=R1;dsimp only;have R2:=r_me hx r1;generalize meR c u1=x at R2 ⊢;generalize meR c' u1'=x' at R2 ⊢;obtain ⟨v2,u2⟩:=x;obtain ⟨v2',u2'⟩:=x';obtain ⟨rfl,r2⟩:v2=v2'/\RC u2 u2':=R2;dsimp only;have R3:=r_ty hx r2 t;generalize tyR c u2 t=x at R3 ⊢;generalize tyR c' u2' t=x' at R3 ⊢;obtain ⟨v3,u3⟩:=x;obtain ⟨v3',u3'⟩:=x';obtain ⟨rfl,r3⟩:v3=v3'/\RC u3 u3':=R3;dsimp only;have R4:=r_rm hx r3;generalize rmR c u3=x at R4 ⊢;generalize rmR c' u3'=x' at R4 ⊢;obtain ⟨v4,u4⟩:=x;obtain ⟨v4',u4'⟩:=x';obtain ⟨rfl,r4⟩:v4=v4'/\RC u4 u4':=R4;dsimp only;exact ⟨rfl,r4⟩
theorem Xiw (hx:RX c c'):∀ (f:Nat) (cu cu':Cu),RC cu cu'->RP (X1y c f cu) (X1y c' f cu')
 | 0,cu,cu',h=>⟨rfl,h⟩
 | f + 1,cu,cu',h=>by
  unfold X1y;have R1:=X4e hx h;generalize Xf c cu=x at R1 ⊢;generalize Xf c' cu'=x' at R1 ⊢;obtain ⟨v1,u1⟩:=x;obtain ⟨v1',u1'⟩:=x';obtain ⟨rfl,r1⟩:v1=v1'/\RC u1 u1':=R1;dsimp only;have r2:RC (if (X3a v1).isSome=true then u1 else badC c u1 130) (if (X3a v1).isSome=true then u1' else badC c' u1' 130):=by
   split
   ·exact r1
   ·exact Xbo r1 _
  generalize (if (X3a v1).isSome=true then u1 else badC c u1 130)=y at r2 ⊢;generalize (if (X3a v1).isSome=true then u1' else badC c' u1' 130)=y' at r2 ⊢;obtain ⟨e3,r3⟩:=Xiw hx f y y' r2;rw [Xhd hx r2,e3];split
  ·exact ⟨rfl,r3⟩
  ·exact ⟨rfl,r2⟩
theorem Xty (hx:RX c c') (k:Key) (o:Nat):∀ (f:Nat) (cu cu':Cu) (X:NX) (b:Nat) (n:Str),RC cu cu'->RS (X28 c k o f ⟨cu,X,b,n⟩) (X28 c' k o f ⟨cu',X,b,n⟩)
 | 0,cu,cu',X,b,n,h=>⟨rfl,rfl,rfl,h⟩
 | f + 1,cu,cu',X,b,n,h=>by
  unfold X28;dsimp only;have R1:=X1k hx h 1 4294967295;generalize Xb c cu 1 4294967295=x at R1 ⊢;generalize Xb c' cu' 1 4294967295=x' at R1 ⊢;obtain ⟨v1,u1⟩:=x;obtain ⟨v1',u1'⟩:=x';obtain ⟨rfl,r1⟩:v1=v1'/\RC u1 u1':=R1;dsimp only;show RS (if X27 c u1=true then _ else _) (if X27 c' u1'=true then _ else _);rw [Xhd hx r1];split
  ·exact Xty hx k o f u1 u1' _ b n r1
  ·exact ⟨rfl,rfl,rfl,r1⟩
variable {c c':Cx} {cu cu':Cu} {s s':PSt}
theorem RS.at (h:RS s s') {a b:Cu} (r:RC a b):RS (s.at a) (s'.at b):=⟨h.1,h.2.1,h.2.2.1,r⟩
theorem RS.app (h:RS s s') (k:Key) (o:Nat) (cs:List Cl):RS (s.app k o cs) (s'.app k o cs):=⟨congrArg (fun X=>apF X k o cs) h.1,h.2⟩
theorem RS.sto (h:RS s s') (k:Key) (o:Nat) (xs:List Value):RS (s.sto k o xs) (s'.sto k o xs):=⟨congrArg (fun X=>stF X k o xs) h.1,h.2⟩
theorem RS.adp (h:RS s s') (k:Key) (o:Nat) (xs:List Value):RS (s.adp k o xs) (s'.adp k o xs):=⟨congrArg (fun X=>adF X k o xs) h.1,h.2⟩
theorem RS.adopt (h:RS s s') (k:Key) (o:Nat) (cs:List Cl) (vs:List Value):RS (s.adopt k o cs vs) (s'.adopt k o cs vs):=by
 unfold PSt.adopt;rw [h.1];exact (h.app _ _ _).adp _ _ _
theorem RS.single (h:RS s s') (ws:List Str):RS (X1s s ws) (X1s s' ws):=⟨by unfold X1s; rw [h.1],h.2⟩
theorem RS.inside (h:RS s s') (ws:List Str):RS (Xz s ws) (Xz s' ws):=by
 simp [Xz,h.2.2.1,h.single]
theorem RS.open (h:RS s s') (b:Nat) (ws:List Str):RS (X8z s b ws) (X8z s' b ws):=⟨(h.single ws).1,rfl,rfl,h.2.2.2⟩
theorem RS.bad (h:RS s s') (e:Int):RS (badS c s e) (badS c' s' e):=h.at (Xbo h.2.2.2 e)
theorem RS.row (h:RS s s') (o sz:Nat) (n:Str) (cs:List Cl):(rowOf s o sz n cs).1=(rowOf s' o sz n cs).1/\RS (rowOf s o sz n cs).2 (rowOf s' o sz n cs).2:=by
 unfold rowOf;rw [h.1];split
 ·grind
 ·exact ⟨rfl,congrArg (fun X=>apF X [0] o cs) (rfl:s'.X=s'.X),h.2⟩
theorem RS.clause (h:RS s s') (name:Str) (act:Nat) (seq:Int):RS (X64 s name act seq) (X64 s' name act seq):=by
 unfold X64;obtain ⟨e,r⟩:=h.row 9 3 name [.v (sv name),.s 0 15,.v (.bool false)];generalize rowOf s 9 3 name [.v (sv name),.s 0 15,.v (.bool false)]=a at e r ⊢;generalize rowOf s' 9 3 name [.v (sv name),.s 0 15,.v (.bool false)]=b at e r ⊢;dsimp only;rw [e];exact ((r.sto _ _ _).app _ _ _).open _ _
theorem Xto (hx:RX c c') (h:RS s s'):RS (X4b c s) (X4b c' s'):=by
 unfold X4b;obtain ⟨e,r⟩:=Xbp hx h.2.2.2 [[111,115,112,102],[98,103,112]];generalize oneC c s.cu [[111,115,112,102],[98,103,112]]=a at e r ⊢;generalize oneC c' s'.cu [[111,115,112,102],[98,103,112]]=b at e r ⊢;dsimp only;rw [e];split
 ·obtain ⟨e1,r1⟩:=Xwh hx r;rw [e1];exact ((h.at r1).open _ _).app _ _ _
 ·obtain ⟨e2,r2⟩:=X1k hx r 1 4294967295;obtain ⟨e1,r1⟩:=Xwh hx r2;rw [e1,e2];exact ((h.at r1).open _ _).app _ _ _
theorem Xw9 (hx:RX c c') (h:RS s s'):RS (X77 c s) (X77 c' s'):=by
 unfold X77;extract_lets v a k d p x n e y g t v' a' k' d' p' x' n' e' y' g' t';have R1:RP v v':=Xwh hx h.2.2.2;have R2:RP a a':=X83 hx R1.2;have R3:RP k k':=Xkp hx R2.2 false;have R4:RP d d':=r_is hx (by rw [R2.1,R3.1]; exact Xv5 R3.2 _ _) _;clear_value d d' k k' a a' v v';have R5:RP p p':=by
  show RP (if _ then _ else _) (if _ then _ else _);rw [R4.1];split
  ·exact ⟨rfl,R4.2⟩
  ·exact Xy5 hx R4.2
 have R6:RP x x':=r_is hx R5.2 _;have R7:RP n n':=X1k hx R6.2 1 255;clear_value n n' x x' p p';have R8:RP e e':=by
  show RP (if _ then _ else _) (if _ then _ else _);rw [R6.1];split
  ·exact R7
  ·exact ⟨rfl,R6.2⟩
 have R9:RP y y':=r_is hx R8.2 _;have R10:RP g g':=X1k hx R9.2 0 16777216;clear_value g g' y y' e e';have R11:RP t t':=by
  show RP (if _ then _ else _) (if _ then _ else _);rw [R9.1];split
  ·exact R10
  ·exact ⟨rfl,R9.2⟩
 clear_value t t';rw [R1.1,R2.1,R3.1,R4.1,R5.1,R8.1,R11.1];exact (h.at R11.2).app _ _ _
theorem r_ip (hx:RX c c') (h0:RS s s'):RS (ipC c s) (ipC c' s'):=by
 unfold ipC;obtain ⟨e,r⟩:=X4e hx h0.2.2.2;generalize Xf c s.cu=w at e r ⊢;generalize Xf c' s'.cu=w' at e r ⊢;have h:RS (s.at w.2) (s'.at w'.2):=h0.at r;dsimp only;generalize s.at w.2=t at h ⊢;generalize s'.at w'.2=t' at h ⊢;rw [e];split
 ·exact Xw9 hx h
 ·split
  ·obtain ⟨e1,r1⟩:=X74 hx h.2.2.2;rw [e1];exact ((h.at r1).open _ _).app _ _ _
  ·split
   ·obtain ⟨e1,r1⟩:=X74 hx h.2.2.2;obtain ⟨e2,r2⟩:=Xwx hx r1;rw [e1,e2];obtain ⟨e3,r3⟩:=(h.at r2).row 7 2 (X17 c' t'.cu).1 [.v (sv (X17 c' t'.cu).1),.s 0 5];rw [e3];exact r3.app _ _ _
   ·split
    ·obtain ⟨e1,r1⟩:=X74 hx h.2.2.2;obtain ⟨e2,r2⟩:=Xbp hx r1 [[112,101,114,109,105,116],[100,101,110,121]];rw [hx.len];obtain ⟨e3,r3⟩:=Xiw hx (c'.ws.length + 1) _ _ r2;rw [e1,e2,e3];obtain ⟨e4,r4⟩:=(h.at r3).row 8 2 (X17 c' t'.cu).1 [.v (sv (X17 c' t'.cu).1),.s 0 2];rw [e4];exact r4.adopt _ _ _ _
    ·split
     ·obtain ⟨e1,r1⟩:=Xbp hx h.2.2.2 [[115,111,117,114,99,101],[100,101,115,116,105,110,97,116,105,111,110]];have r2:=Xuc hx r1 [102,105,108,116,101,114];obtain ⟨e3,r3⟩:=X74 hx r2;have r4:=Xuc hx r3 [116,111];obtain ⟨e5,r5⟩:=X83 hx r4;rw [e1,e3,e5];exact (h.at r5).app _ _ _
     ·exact h.bad _
theorem Xzh (hx:RX c c') (h0:RS s s'):RS (topC c s) (topC c' s'):=by
 unfold topC;obtain ⟨e,r⟩:=X4e hx h0.2.2.2;generalize Xf c s.cu=w at e r ⊢;generalize Xf c' s'.cu=w' at e r ⊢;have h:RS (s.at w.2) (s'.at w'.2):=h0.at r;dsimp only;generalize s.at w.2=t at h ⊢;generalize s'.at w'.2=t' at h ⊢;rw [e];obtain ⟨e1,r1⟩:=X74 hx h.2.2.2;split
 ·rw [e1];exact ((h.at r1).sto _ _ _).single _
 ·split
  ·rw [e1];exact ((h.at r1).single _).app _ _ _
  ·split
   ·rw [e1];exact ((h.at r1).open _ _).app _ _ _
   ·split
    ·exact r_ip hx h
    ·split
     ·obtain ⟨e2,r2⟩:=Xbp hx r1 [[112,101,114,109,105,116],[100,101,110,121],[110,101,120,116]];obtain ⟨e3,r3⟩:=X1k hx r2 1 65535;rw [e1,e2,e3];exact (h.at r3).clause _ _ _
     ·split
      ·exact Xto hx h
      ·exact h.bad _
variable {c c':Cx} {cu cu':Cu} {s s':PSt}
theorem RX.pos (hx:RX c c') (i:Nat):(wdC c (i % c.ws.length)).1=(wdC c' (i % c'.ws.length)).1:=by rw [hx.len]; exact hx.wd _
theorem Xx7 (hx:RX c c') (h0:RS s s'):RS (X6m c s) (X6m c' s'):=by
 unfold X6m;obtain ⟨e,r⟩:=X4e hx h0.2.2.2;have hp:=hx.pos 1;generalize Xf c s.cu=w at e r ⊢;generalize Xf c' s'.cu=w' at e r ⊢;have h:RS (s.at w.2) (s'.at w'.2):=h0.at r;dsimp only;generalize s.at w.2=t at h ⊢;generalize s'.at w'.2=t' at h ⊢;have hX:=h.1;rw [e,hX,hp];split
 ·obtain ⟨e1,r1⟩:=X74 hx h.2.2.2;rw [e1];exact ((h.at r1).sto _ _ _).inside _
 ·split
  ·obtain ⟨e1,r1⟩:=X83 hx h.2.2.2;obtain ⟨e2,r2⟩:=Xkp hx r1 false;rw [e1,e2];have h2:=(((h.at r1).sto [3,0] ((nOf t'.X [0] 3 - 1) * 11 + 2) [u32 (X1e c' t'.cu).1]).at r2).sto [3,0] ((nOf t'.X [0] 3 - 1) * 11 + 3) [I (X35 c' (X1e c' t'.cu).2 false).1];split
   ·exact (h2.bad _).inside _
   ·exact h2.inside _
  ·split
   ·obtain ⟨e1,r1⟩:=X74 hx h.2.2.2;obtain ⟨e2,r2⟩:=Xbp hx r1 [[105,110],[111,117,116]];rw [e1,e2];split
    ·exact ((h.at r2).sto _ _ _).inside _
    ·exact ((h.at r2).sto _ _ _).inside _
   ·split
    ·obtain ⟨e1,r1⟩:=Xbp hx h.2.2.2 [[105,110,115,105,100,101],[111,117,116,115,105,100,101]];rw [e1];exact ((h.at r1).sto _ _ _).inside _
    ·split
     ·obtain ⟨e1,r1⟩:=Xbp hx h.2.2.2 [[97,114,101,97],[99,111,115,116],[112,97,115,115,105,118,101]];obtain ⟨e2,r2⟩:=X1k hx r1 0 16777216;obtain ⟨e3,r3⟩:=X1k hx r1 1 65535;rw [e1,e2,e3];refine RS.inside ?_ _;split
      ·exact (h.at r2).sto _ _ _
      ·split
       ·exact (h.at r3).sto _ _ _
       ·exact (h.at r1).sto _ _ _
     ·split
      ·exact (h.sto _ _ _).inside _
      ·exact h.bad _
theorem Xye (hx:RX c c') (h:RS s s'):RS (Xcf c s) (Xcf c' s'):=by
 unfold Xcf;rw [h.1];extract_lets o x1 x2 x3 x4 n p a b d e o' x1' x2' x3' x4' n' p' a' b' d' e';have R1:RP o o':=Xbp hx h.2.2.2 _;have R2:RP x1 x1':=r_is hx R1.2 _;have R3:RP x2 x2':=r_is hx R2.2 _;have R4:RP x3 x3':=r_is hx R3.2 _;have R5:RP x4 x4':=r_is hx R4.2 _;have R6:RP n n':=X1k hx R5.2 0 255;clear_value n n' x4 x4' x3 x3' x2 x2' x1 x1' o o';have R7:RP p p':=by
  show RP (if _ then _ else _) (if _ then _ else _);rw [R2.1,R3.1,R4.1,R5.1];split
  ·exact ⟨rfl,R2.2⟩
  ·split
   ·exact ⟨rfl,R3.2⟩
   ·split
    ·exact ⟨rfl,R4.2⟩
    ·split
     ·exact ⟨rfl,R5.2⟩
     ·exact R6
 have R8:RP a a':=Xup hx R7.2;have R9:RP b b':=by
  show RP (X2g c a.2 p.1) (X2g c' a'.2 p'.1);rw [R7.1];exact Xpi hx R8.2 _
 have R10:RP d d':=Xup hx R9.2;have R11:RP e e':=by
  show RP (X2g c d.2 p.1) (X2g c' d'.2 p'.1);rw [R7.1];exact Xpi hx R10.2 _
 clear_value e e' d d' b b' a a' p p';rw [R1.1,R7.1,R8.1,R9.1,R10.1,R11.1];exact (h.at R11.2).app _ _ _
theorem Xzr (hx:RX c c') (h0:RS s s') (k:Key) (b:Nat):(setC c s k b).1=(setC c' s' k b).1/\RS (setC c s k b).2 (setC c' s' k b).2:=by
 unfold setC;obtain ⟨e,r⟩:=X4e hx h0.2.2.2;generalize Xf c s.cu=w at e r ⊢;generalize Xf c' s'.cu=w' at e r ⊢;have h:RS (s.at w.2) (s'.at w'.2):=h0.at r;dsimp only;generalize s.at w.2=t at h ⊢;generalize s'.at w'.2=t' at h ⊢;rw [e];refine ⟨rfl,?_⟩;obtain ⟨e1,r1⟩:=X1k hx h.2.2.2 0 16777216;rw [e1];split
 ·exact (h.at r1).sto _ _ _
 ·split
  ·exact (h.at r1).sto _ _ _
  ·split
   ·exact (h.at r1).sto _ _ _
   ·split
    ·obtain ⟨e2,r2⟩:=r_is hx h.2.2.2 [97,100,100];rw [hx.len];obtain ⟨e3,r3⟩:=Xiw hx (c'.ws.length + 1) _ _ r2;rw [e2,e3];exact (((h.at r2).sto _ _ _).at r3).adp _ _ _
    ·split
     ·rw [hx.len];obtain ⟨cu,X,b1,nn⟩:=t;obtain ⟨cu',X',b1',nn'⟩:=t';obtain ⟨rfl,rfl,rfl,h⟩:X=X'/\b1=b1'/\nn=nn'/\RC cu cu':=h;exact Xty hx _ _ _ _ _ _ _ _ h
     ·split
      ·obtain ⟨e2,r2⟩:=Xy5 hx h.2.2.2;rw [e2];exact (h.at r2).sto _ _ _
      ·exact h.bad _
theorem X102 (hx:RX c c') (h0:RS s s'):RS (askC c s) (askC c' s'):=by
 unfold askC;obtain ⟨e,r⟩:=X4e hx h0.2.2.2;rw [h0.1];generalize Xf c s.cu=w at e r ⊢;generalize Xf c' s'.cu=w' at e r ⊢;have h:RS (s.at w.2) (s'.at w'.2):=h0.at r;generalize askK s'.X=k;generalize askB s'.X=b;dsimp only;generalize s.at w.2=t at h ⊢;generalize s'.at w'.2=t' at h ⊢;have hX:=h.1;rw [e,hX];split
 ·obtain ⟨e1,r1⟩:=X4e hx h.2.2.2;generalize Xf c t.cu=q at e1 r1 ⊢;generalize Xf c' t'.cu=q' at e1 r1 ⊢;have h1:RS (t.at q.2) (t'.at q'.2):=h.at r1;generalize t.at q.2=z at h1 ⊢;generalize t'.at q'.2=z' at h1 ⊢;obtain ⟨e2,r2⟩:=X74 hx h1.2.2.2;obtain ⟨e3,r3⟩:=X1k hx h1.2.2.2 0 16777216;obtain ⟨e4,r4⟩:=X1k hx h1.2.2.2 1 4294967295;rw [e1,e2,e3,e4];refine RS.inside ?_ _;split
  ·exact (h1.at r2).sto _ _ _
  ·split
   ·exact (h1.at r2).sto _ _ _
   ·split
    ·exact (h1.at r3).sto _ _ _
    ·split
     ·exact (h1.at r3).sto _ _ _
     ·split
      ·exact (h1.at r4).sto _ _ _
      ·exact h1.bad _
 ·split
  ·obtain ⟨e1,r1⟩:=Xzr hx h k b;rw [e1];exact r1.inside _
  ·split
   ·obtain ⟨e1,r1⟩:=X1k hx h.2.2.2 (IntKind.i64.wrap (iOf t'.X k b + 1)) 65535;rw [e1];exact ((h.at r1).sto _ _ _).inside _
   ·exact h.bad _
theorem Xyx (hx:RX c c') (h0:RS s s'):RS (Xdh c s) (Xdh c' s'):=by
 unfold Xdh;obtain ⟨e,r⟩:=X4e hx h0.2.2.2;generalize Xf c s.cu=w at e r ⊢;generalize Xf c' s'.cu=w' at e r ⊢;have h:RS (s.at w.2) (s'.at w'.2):=h0.at r;dsimp only;generalize s.at w.2=t at h ⊢;generalize s'.at w'.2=t' at h ⊢;have hX:=h.1;rw [e,hX];split
 ·obtain ⟨e1,r1⟩:=X83 hx h.2.2.2;rw [e1];exact ((h.at r1).sto _ _ _).inside _
 ·split
  ·obtain ⟨e1,r1⟩:=Xkl hx h.2.2.2 [98,103,112] 8 true;rw [e1];exact (h.at r1).app _ _ _
  ·exact h.bad _
theorem r_nb (hx:RX c c') (h:RS s s'):RS (X2s c s) (X2s c' s'):=by
 unfold X2s;rw [h.1];extract_lets b a i o k y ws n g p q t a' i' o' y' ws' n' g' p' q' t';have R1:RP a a':=X83 hx h.2.2.2;have hi:i=i':=by grind [Xfz,R1.1]
 have R2:RP o o':=Xbp hx R1.2 _;have R3:RP n n':=X1k hx R2.2 1 4294967295;have R4:RP g g':=X74 hx R2.2;have R5:RP p p':=Xbp hx R4.2 _;have hy:y=y':=by
  grind
 have hw:ws=ws':=by show [_,X24 a.1]=[_,X24 a'.1]; rw [R1.1]
 clear_value p p' g g' n n' ws ws' y y' o o' i i' a a';subst hi hy hw;have R6:RP q q':=by
  show RP (if _ then _ else _) (if _ then _ else _);rw [R1.1,R2.1,R3.1,R4.1,R5.1];split
  ·exact ⟨rfl,R3.2⟩
  ·split
   ·split
    ·exact ⟨rfl,R5.2⟩
    ·exact ⟨rfl,R5.2⟩
   ·split
    ·exact ⟨rfl,R2.2⟩
    ·exact ⟨rfl,R2.2⟩
 have ht:RS t t':=h.at R6.2;clear_value t t' q q';rw [R2.1,R6.1];split
 ·split
  ·exact (ht.app _ _ _).inside _
  ·exact ht.sto _ _ _
 ·refine RS.inside ?_ _;split
  ·exact ht
  ·exact ht.sto _ _ _
theorem Xzi (hx:RX c c') (h0:RS s s'):RS (bgpC c s) (bgpC c' s'):=by
 unfold bgpC;obtain ⟨e,r⟩:=X4e hx h0.2.2.2;generalize Xf c s.cu=w at e r ⊢;generalize Xf c' s'.cu=w' at e r ⊢;have h:RS (s.at w.2) (s'.at w'.2):=h0.at r;dsimp only;generalize s.at w.2=t at h ⊢;generalize s'.at w'.2=t' at h ⊢;have hX:=h.1;rw [e,hX];split
 ·obtain ⟨e1,r1⟩:=X83 hx h.2.2.2;rw [e1];exact ((h.at r1).sto _ _ _).inside _
 ·split
  ·obtain ⟨e1,r1⟩:=X83 hx h.2.2.2;obtain ⟨e2,r2⟩:=Xkp hx r1 false;rw [e1,e2];exact ((h.at (Xv5 r2 _ _)).inside _).app _ _ _
  ·split
   ·exact r_nb hx h
   ·split
    ·obtain ⟨e1,r1⟩:=Xkl hx h.2.2.2 [111,115,112,102] 4 false;rw [e1];exact (h.at r1).app _ _ _
    ·exact h.bad _
theorem Xx2 (hx:RX c c') (h:RS s s'):RS (X4x c s) (X4x c' s'):=by
 unfold X4x;rw [h.2.1];split
 ·exact Xx7 hx h
 ·split
  ·exact Xye hx h
  ·split
   ·exact X102 hx h
   ·split
    ·exact Xyx hx h
    ·exact Xzi hx h
theorem RS.fail (h:RS s s') (a b:Nat) (e:Int):RS (s.at (X3b s.cu a e)) (s'.at (X3b s'.cu b e)):=h.at (Xq6 h.2.2.2 a b e)
theorem Xzt (hx:RX c c') (h:RS s s'):RS (endL c s) (endL c' s'):=by
 unfold endL;have r1:RS (if X27 c s.cu=true then s.at (X3b s.cu (wdC c s.cu.pl).2 130) else s) (if X27 c' s'.cu=true then s'.at (X3b s'.cu (wdC c' s'.cu.pl).2 130) else s'):=by
  rw [Xhd hx h.2.2.2];split
  ·exact h.fail _ _ _
  ·exact h
 generalize (if X27 c s.cu=true then s.at (X3b s.cu (wdC c s.cu.pl).2 130) else s)=t at r1 ⊢;generalize (if X27 c' s'.cu=true then s'.at (X3b s'.cu (wdC c' s'.cu.pl).2 130) else s')=t' at r1 ⊢;dsimp only;rw [r1.1];split
 ·exact r1.fail _ _ _
 ·split
  ·exact r1.fail _ _ _
  ·exact r1
theorem Xyh (hx:RX c c') (h:RS s s') (ind:Nat):RS (X47 c s ind) (X47 c' s' ind):=by
 unfold X47;refine Xzt hx ?_;rw [h.2.1];split
 ·exact Xzh hx ⟨h.1,rfl,h.2.2⟩
 ·split
  ·exact Xx2 hx h
  ·exact h.fail _ _ _
def trip (r:Str):Str:=r.flatMap fun c=>if c=32 then [32,32,32] else [c]
def rowB (r:Str):Str:=r.takeWhile isSp ++ (trip (trimS r) ++ [32])
abbrev Xaq:Str:=[33,32,97,32,110,111,116,101]
abbrev Xv7:Str:=[32,32,33,32,97,110,111,116,104,101,114]
def insB (i:Nat) (at':Int):List Str:=if (i:Int)=at' then [Xv7,[32,32,32]] else []
def X23 (at':Int):List Str->Nat->List Str
 | [],_=>[]
 | r :: l,i=>rowB r :: (insB i at' ++ X23 at' l (i + 1))
def Xk1 (s:Str) (at':Int):List Str:=Xaq :: [] :: X23 at' (split 10 s) 0
def X2o (s:Str) (at':Int):Str:=ends (Xk1 s at')
def wd:Str->Str->List Str
 | cur,[]=>if cur=[] then [] else [cur]
 | cur,a :: r=>if a=32 then (if cur=[] then wd [] r else cur :: wd [] r) else wd (cur ++ [a]) r
theorem Xyj (cur:Str):wd cur []=if cur=[] then [] else [cur]:=rfl
theorem Xfq (cur:Str) (a:UInt8) (r:Str):wd cur (a :: r)=if a=32 then (if cur=[] then wd [] r else cur :: wd [] r) else wd (cur ++ [a]) r:=rfl
theorem Xsx (c:UInt8):cutO c []=([],[],false):=rfl
theorem Xt7 (c:UInt8) (r:Str):(cutO c (c :: r)).1=[]/\(cutO c (c :: r)).2.1=r:=by
 unfold cutO cut;simp
theorem Xgs {c:UInt8} (h:a ≠ c) (r:Str):(cutO c (a :: r)).1=a :: (cutO c r).1/\(cutO c (a :: r)).2.1=(cutO c r).2.1:=by
 unfold cutO;rw [cut];rw [if_neg h];cases cut c r <;> exact ⟨rfl,rfl⟩
theorem Xug:∀ (r cur:Str),(cur ≠ []\/∃ a l,r=a :: l/\a ≠ 32)->wd cur r=(cur ++ (cutO 32 r).1) :: wd [] (cutO 32 r).2.1
 | [],cur,h=>by
  simp_all [Xyj,if_neg,Xsx,List.append_nil,if_pos]
 | a :: r,cur,h=>by
  rw [Xfq];by_cases ha:a=32
  ·subst ha;rcases h with h | ⟨b,l,h,hb⟩
   ·simp_all [if_pos,if_neg,Xt7,List.append_nil]
   ·grind
  ·rw [if_neg ha,Xug r (cur ++ [a]) (.inl (by simp)),(Xgs ha r).1,(Xgs ha r).2];simp
theorem isSp_t:isSp a=true ↔ a=32:=by unfold isSp; simp
theorem X7l (a:UInt8) (l:Str):trimS (a :: l)=if a=32 then trimS l else a :: l:=by
 unfold trimS;rw [List.dropWhile_cons];by_cases h:a=32
 ·simp_all [if_pos,isSp_t.mpr]
 ·rw [if_neg h,if_neg (fun q=>h (isSp_t.mp q))]
theorem Xo6:∀ r:Str,wd [] (trimS r)=wd [] r
 | []=>rfl
 | a :: l=>by
  rw [X7l];by_cases h:a=32
  ·rw [if_pos h,Xo6 l,h];show _=wd [] (32 :: l);rw [Xfq,if_pos rfl,if_pos rfl]
  ·rw [if_neg h]
theorem X7c:∀ r:Str,trimS r=[]\/∃ a l,trimS r=a :: l/\a ≠ 32
 | []=>.inl rfl
 | a :: l=>by
  rw [X7l];by_cases h:a=32
  ·rw [if_pos h]; exact X7c l
  ·grind
theorem Xg4 (n:Nat):∀ (f:Nat) (rest:Str),rest.length < f->(rest=[]\/∃ a l,rest=a :: l/\a ≠ 32)->(X32 n f rest).map (·.1)=wd [] rest
 | f + 1,rest,hf,h=>by
  unfold X32;by_cases hr:rest=[]
  ·rw [if_pos hr,hr]; rfl
  ·rw [if_neg hr,List.map_cons];rcases h with h | h
   ·grind
   ·have hl:=Xjp hr;have ht:=X5h (cutO 32 rest).2.1;rw [Xg4 n f (trimS (cutO 32 rest).2.1) (by omega) (X7c _),Xo6,Xug rest [] (.inr h)];rfl
theorem X3o (a:UInt8) (r:Str):trip (a :: r)=(if a=32 then [32,32,32] else [a]) ++ trip r:=by rfl
theorem Xyv (cur r:Str):wd cur (32 :: r)=if cur=[] then wd [] r else cur :: wd [] r:=by rw [wd,if_pos rfl]
theorem Xka:∀ (r cur:Str),wd cur (trip r ++ [32])=wd cur r
 | [],cur=>by
  show wd cur [32]=wd cur [];rw [Xyv];by_cases h:cur=[]
  ·rfl
  ·rfl
 | a :: r,cur=>by
  rw [X3o];by_cases h:a=32
  ·rw [if_pos h,h];show wd cur (32 :: 32 :: 32 :: (trip r ++ [32]))=wd cur (32 :: r);simp only [Xyv,if_true,Xka r []]
  ·rw [if_neg h];show wd cur (a :: (trip r ++ [32]))=wd cur (a :: r);rw [Xfq,Xfq,if_neg h,if_neg h,Xka r _]
theorem row_split (r:Str):r.takeWhile isSp ++ trimS r=r:=List.takeWhile_append_dropWhile
theorem Xed:∀ (k x:Str),(∀ a ∈ k,a=32)->trimS (k ++ x)=trimS x
 | [],x,_=>rfl
 | a :: k,x,h=>by
  rw [List.cons_append,X7l,if_pos (h a (List.mem_cons_self ..)),Xed k x fun b hb=>h b (List.mem_cons_of_mem _ hb)]
theorem Xer (r:Str):∀ a ∈ r.takeWhile isSp,a=32:=by
 induction r with
 | nil=>intro a h; cases h
 | cons b l ih =>
  intro a h;rw [List.takeWhile_cons] at h;split at h
  ·rename_i hb;rcases List.mem_cons.mp h with e | e
   ·rw [e]; exact isSp_t.mp hb
   ·exact ih a e
  ·cases h
theorem Xrf (r:Str):rowP r=if trimS r=[]\/(trimS r).head?=some 33 then none else some (r.length - (trimS r).length,X32 r.length (r.length + 1) (trimS r)):=rfl
theorem Xxx (r:Str):match rowP r with | none=>rowP (rowB r)=none | some x=>∃ y,rowP (rowB r)=some y/\y.1=x.1/\y.2.map (·.1)=x.2.map (·.1):=by
 have hs:=row_split r;have hk:=Xer r;have hl:=congrArg List.length hs;rw [List.length_append] at hl;have ht:trimS (rowB r)=trimS (trip (trimS r) ++ [32]):=by unfold rowB; exact Xed _ _ hk
 rcases X7c r with h | ⟨a,l,h,ha⟩
 ·have e1:rowP r=none:=by unfold rowP; rw [h]; rfl
  have e2:rowP (rowB r)=none:=by
   unfold rowP;rw [ht,h];rfl
  rw [e1];exact e2
 ·have ht2:trimS (rowB r)=trip (trimS r) ++ [32]:=by
   rw [ht,h,X3o,if_neg ha];show trimS (a :: (trip l ++ [32]))=_;rw [X7l,if_neg ha]; rfl
  have hne:trip (trimS r) ++ [32] ≠ []:=by simp
  have hd:(trip (trimS r) ++ [32]).head?=some a:=by rw [h,X3o,if_neg ha]; rfl
  rw [Xrf,Xrf,ht2,hd,h,List.head?_cons];by_cases h33:a=33
  ·rw [h33];simp
  ·have n1:¬ (a :: l=[]\/some a=some 33):=by simp [h33]
   have n2:¬ (trip (a :: l) ++ [32]=[]\/some a=some 33):=by simp [h33]
   rw [if_neg n1,if_neg n2];refine ⟨_,rfl,?_,?_⟩
   ·show (rowB r).length - (trip (a :: l) ++ [32]).length=r.length - (a :: l).length;rw [<- h,<- hl];unfold rowB;rw [List.length_append];omega
   ·show (X32 _ _ _).map (·.1)=(X32 _ _ _).map (·.1);have hlen:(trip (a :: l) ++ [32]).length <= (rowB r).length:=by
     unfold rowB; rw [h]; simp only [List.length_append]; omega
    rw [Xg4 _ _ (trip (a :: l) ++ [32]) (by omega) (.inr ⟨a,trip l ++ [32],by rw [X3o,if_neg ha]; rfl,ha⟩),Xg4 _ _ (a :: l) (by rw [<- h]; omega) (.inr ⟨a,l,rfl,ha⟩),Xka]
end Go.Ab.Sh
end
