/-
  Functions of the program as plain definitions. No conditions.
-/
import Derived.Test.YteognfejlpbmoaaGreatDoorAb5
import Derived.Test.YteognfejlpbmoaaGreatDoorZ
import Derived.KernelRfl
import Derived.Test.YteognfejlpbmoaaGreatDoorProg
set_option linter.unusedSimpArgs false
set_option linter.unusedVariables false
set_option maxRecDepth 100000
namespace Go.Ab.Sh
open Go Go.Ab Go.Proofs Go.Proofs.Tryz
noncomputable section
def Q8t(G:Gt)(a b:V):=F (qw b) fun c=>qo G Q7 [a,c]
def Qcb(G:Gt)(c d a b:V):=qa 3 c fun e=>D (qg e (A 0)) (C G Q5 [d,(A 10)] fun f=>Q8t G a b) (Q8t G a b)
def Q8u(G:Gt)(a b c d:V):=C G Q3y [b,qe] fun e=>Z 3 a e (Qcb G a b c d)
def Q3b(G:Gt)(b c a:V):=qa 0 a fun d=>qa 0 a fun e=>N (lenK 1 e) fun f=>B (bin .rem true true .int (A 1) f) fun g=>Y 3 d g fun h=>H 0 h fun j=>F (qt c j) fun l=>qo G Q7 [b,l]
def Qbk(G:Gt)(e b a c d:V):=D (qg e (A 0)) (C G Q2 [a,(A 0),(A 16777216)] fun f=>Z 8 b f (Q3b G c d a)) (D (qg e (A 1)) (C G Q2 [a,(A 1),(A 65535)] fun g=>Z 9 b g (Q3b G c d a)) (Z 10 b qf (Q3b G c d a)))
def Qbl(G:Gt)(e a b c d f:V):=Q e (F (qy (E [97,114,101,97]) (E [99,111,115,116]) (E [112,97,115,115,105,118,101])) fun g=>C G Qy [a,g] fun h=>Qbk G h b a c d) (D (qd f (E [115,104,117,116,100,111,119,110])) (Z 4 b qf (F (qw d) fun j=>qo G Q7 [c,j])) (qo G Q5 [a,(A 130)]))
def Qcc(G:Gt)(f a b c d e:V):=Q f (F (X5 Q1u [(.int .u8 0)] 1 2 [(0,(.int .u8 1)),(1,(.int .u8 2))]) fun g=>F (qt (E [105,110,115,105,100,101]) (E [111,117,116,115,105,100,101])) fun h=>C G Qy [b,h] fun j=>qx 1 g j fun l=>Z 7 a l (F (qw d) fun n=>qo G Q7 [c,n])) (B (qd e (E [111,115,112,102])) fun o=>Qbl G o b a c d e)
def Qcd(G:Gt)(g a b c d e:V):=Q g (C G Qd [a] fun f=>F (qt (E [105,110]) (E [111,117,116])) fun h=>C G Qy [a,h] fun j=>D (qg j (A 0)) (Z 5 b f (F (qt d (E [105,110])) fun l=>qo G Q7 [c,l])) (Z 6 b f (F (qt d (E [111,117,116])) fun n=>qo G Q7 [c,n]))) (B (qd e (E [110,97,116])) fun o=>Qcc G o b a c d e)
def Qce(G:Gt)(f a b c d e:V):=Q f (C G Qz [b] fun g=>Z 2 a g (Q8u G a b c d)) (B (qd e (E [102,105,108,116,101,114])) fun h=>Qcd G h b a c d e)
def Qcf(G:Gt)(f a b c d e:V):=Q f (C G Qd [b] fun g=>Z 1 a g (F (qw d) fun h=>qo G Q7 [c,h])) (B (qd e (E [97,100,100,114,101,115,115])) fun j=>Qce G j a b c d e)
def Qcg(G:Gt)(a b c d e:V):=B (qd a (E [118,114,102])) fun f=>Qcf G f b c d e a
def Qch(G:Gt)(a b c d:V):=Qcg G a b c d a
def Qci(G:Gt)(a b c:V):=C G Qe [a] fun d=>Qch G d b a c
def Q4x(G:Gt)(a b:V):=qr 0 a fun c=>H 3 c fun d=>qr 0 a fun e=>H 3 e fun f=>N (lenK 1 f) fun g=>B (bin .sub true true .int g (A 1)) fun h=>Y 11 d h fun j=>Qci G b j a
def Qi4:En:=⟨_,_,func29,by kernel_rfl,_,X14 (s:=Q4x) fun G a b m=>Xc (r:=v2 (Q4x G) 0 1) rfl rfl (ts (v3 (Qci G) 1 4 0) (ts (v4 (Qch G) 5 4 1 0) (ts (v5 (Qcg G) 23 4 1 0 5) (tr (Xj (seqQ (f:=v6 (Qcf G) 26 4 1 0 5 23) (tr (X40 (refQ) (seqQ (f:=v6 (Qce G) 37 4 1 0 5 23) (tr (X40 (seqQ (f:=v4 (Q8u G) 4 1 0 5) (ts (v4 (Qcb G) 4 1 0 5) (ts (v2 (Q8t G) 0 5)))) (seqQ (f:=v6 (Qcd G) 60 1 4 0 5 23) (tr (X40 (refQ) (seqQ (f:=v6 (Qcc G) 84 4 1 0 5 23) (tr (X40 (refQ) (seqQ (f:=v6 (Qbl G) 99 1 4 0 5 23) (tr (X40 (seqQ (f:=v5 (Qbk G) 7 4 1 0 5) (ts (v3 (Q3b G) 0 5 1))) (refQ))))))))))))))))))))) m⟩
def Q8a(G:Gt)(a b:V):=qa 6 a fun c=>qc true 7 b fun d=>qp Qi5 Qdd 7 56 c d fun e=>Z 6 a e (qv)
def Q8b(G:Gt)(b a c:V):=C G Qg [b,(E [116,97,103])] fun d=>Q d (C G Q2 [b,(A 0),(A 16777216)] fun e=>qk 6 a e (Q8a G c a)) (Q8a G c a)
def Q8c(G:Gt)(a b c:V):=C G Qg [a,(E [100,105,115,116,97,110,99,101])] fun d=>Q d (C G Q2 [a,(A 1),(A 255)] fun e=>qk 5 b e (Q8b G a b c)) (Q8b G a b c)
def Qbf(G:Gt)(b a c:V):=C G Qg [b,(E [100,105,115,99,97,114,100])] fun d=>qk 4 a d (H 4 a fun e=>D (un .not e) (C G Q92 [b] fun f=>qk 3 a f (Q8c G b a c)) (Q8c G b a c))
def Qg4(G:Gt)(a c b d:V):=C G Q3y [a,qe] fun e=>C G Q6f [a,c,e] fun f=>O 1 b fun g=>T 2 g f (Qbf G a b d)
def Qg5(G:Gt)(a b c:V):=C G Qz [a] fun d=>Qg4 G a d b c
def Q7d(G:Gt)(a b e:V):=qr 7 a fun c=>P c fun d=>qa 7 a fun f=>Y 2 f b fun g=>H 1 g fun h=>qc true 5 e fun j=>qp Qfz Q34 5 40 h j fun l=>qi (L false 1 c d qj) (Y 2 d b fun n=>qk 1 n l (qv))
def Qef(G:Gt)(b a d c:V):=D (bin .lss true true .int b (A 0)) (qa 7 a fun e=>N (lenK 1 e) fun f=>qa 7 a fun g=>P d fun h=>B (Xg Qay [(0,1),(1,1)] [(0,h)]) fun j=>qp Q6e Qay 2 40 g j fun l=>Z 7 a l (Q7d G a f c)) (Q7d G a b c)
def Qeg(G:Gt)(a b c:V):=qa 7 a fun d=>C G Qt [d,(.func (.func Q2o) ⟨[]⟩ ⟨[b]⟩)] fun e=>Qef G e a b c
def Qeh(G:Gt)(b c d:V):=C G Qaa [b] fun e=>S Qfz Q34 fun a=>T 5 a e (Qeg G c d a)
def Q7e(G:Gt)(a b e:V):=qr 8 a fun c=>P c fun d=>qa 8 a fun f=>Y 2 f b fun g=>H 1 g fun h=>qc true 2 e fun j=>qp Qo6 Qi6 2 32 h j fun l=>qi (L false 1 c d qj) (Y 2 d b fun n=>qk 1 n l (qv))
def Qei(G:Gt)(b a d c:V):=D (bin .lss true true .int b (A 0)) (qa 8 a fun e=>N (lenK 1 e) fun f=>qa 8 a fun g=>P d fun h=>B (Xg Q8d [(0,1),(1,1)] [(0,h)]) fun j=>qp Q3z Q8d 2 40 g j fun l=>Z 8 a l (Q7e G a f c)) (Q7e G a b c)
def Qej(G:Gt)(a b c:V):=qa 8 a fun d=>C G Qn [d,(.func (.func Q2p) ⟨[]⟩ ⟨[b]⟩)] fun e=>Qei G e a b c
def Qek(G:Gt)(a c d:V):=F (qt (E [112,101,114,109,105,116]) (E [100,101,110,121])) fun e=>C G Qy [a,e] fun f=>B (qg f (A 0)) fun g=>C G Q3i [a] fun h=>B (Xg Qi6 [(0,1),(1,1)] [(0,g),(1,h)]) fun j=>S Qo6 Qi6 fun b=>T 2 b j (Qej G c d b)
def Qel(G:Gt)(e a c f:V):=Q e (C G Qd [a] fun g=>S Q4 [(E [])] fun d=>T 1 d g (Qek G a c d)) (D (qd f (E [110,97,116])) (F (qt (E [115,111,117,114,99,101]) (E [100,101,115,116,105,110,97,116,105,111,110])) fun h=>C G Qy [a,h] fun j=>B (qg j (A 1)) fun l=>B (Xg Qhl [(0,1),(1,1),(2,1)] [(0,l)]) fun n=>S Qna Qhl fun b=>T 3 b n (C G Q8e [a,(E [102,105,108,116,101,114])] fun u=>C G Qd [a] fun o=>qk 1 b o (C G Q8e [a,(E [116,111])] fun v=>C G Qz [a] fun p=>qk 2 b p (qa 5 c fun q=>qc true 3 b fun s=>qp Qna Qhl 3 32 q s fun t=>Z 5 c t (qv))))) (qo G Q5 [a,(A 130)]))
def Qem(G:Gt)(e a b c:V):=Q e (C G Qd [a] fun f=>S Q4 [(E [])] fun d=>T 1 d f (Qeh G a b d)) (B (qd c (E [99,111,109,109,117,110,105,116,121,45,108,105,115,116])) fun g=>Qel G g a b c)
def Qg6(G:Gt)(f b c a d:V):=Q f (C G Qd [b] fun e=>F (qt (E [102,105,108,116,101,114]) e) fun g=>C G Q27 [c,(.func (.func Q8f) ⟨[c]⟩ ⟨[]⟩),g] fun o=>qa 4 a fun h=>B (Xg Qgi [(0,1),(1,1)] [(0,e)]) fun j=>qp Qlj Qgi 2 40 h j fun l=>Z 4 a l (qv)) (B (qd d (E [112,114,101,102,105,120,45,108,105,115,116])) fun n=>Qem G n b a d)
def Qg7(G:Gt)(e a b c f:V):=Q e (C G Q6g [a] fun g=>B (Xg Qdd [(0,1),(1,2),(3,1),(4,1),(5,1),(6,1)] [(0,g),(4,(A 1))]) fun h=>S Qi5 Qdd fun d=>T 7 d h (Qg5 G a d b)) (B (qd c (E [102,105,108,116,101,114])) fun j=>Qg6 G j a f b c)
def Qg8(G:Gt)(a b c d:V):=B (qd a (E [114,111,117,116,101])) fun e=>Qg7 G e b c a d
def Qg9(G:Gt)(a b c:V):=C G Qe [a] fun d=>Qg8 G d a b c
def Q7u(G:Gt)(a b:V):=qr 0 a fun c=>Qg9 G b c a
def Ql6:En:=⟨_,_,func30,by kernel_rfl,_,X14 (s:=Q7u) fun G a b m=>Xc (r:=v2 (Q7u G) 0 1) rfl rfl (ts (v3 (Qg9 G) 1 4 0) (ts (v4 (Qg8 G) 19 1 4 0) (tr (Xj (seqQ (f:=v5 (Qg7 G) 22 1 4 19 0) (tr (X40 (seqQ (f:=v3 (Qg5 G) 1 5 4) (ts (v4 (Qg4 G) 1 6 5 4) (ts (v3 (Qbf G) 1 5 4) (ts (v3 (Q8c G) 1 5 4) (ts (v3 (Q8b G) 1 5 4) (ts (v2 (Q8a G) 4 5))))))) (seqQ (f:=v5 (Qg6 G) 64 1 0 4 19) (tr (X40 (refQ) (seqQ (f:=v4 (Qem G) 85 1 4 19) (tr (X40 (seqQ (f:=v3 (Qeh G) 1 4 8) (ts (v3 (Qeg G) 4 8 9) (ts (v4 (Qef G) 10 4 8 9) (ts (v3 (Q7d G) 4 10 9))))) (seqQ (f:=v4 (Qel G) 133 1 4 19) (tr (X40 (seqQ (f:=v3 (Qek G) 1 4 11) (ts (v3 (Qej G) 4 11 12) (ts (v4 (Qei G) 13 4 11 12) (ts (v3 (Q7e G) 4 13 12))))) (refQ))))))))))))))))) m⟩
def Qab(G:Gt)(a:V):=B (aMax a (A 0)) fun b=>K b
def Qen(G:Gt)(a b:V):=D (bin .lss true true .int a (A 0)) (C G Q5 [b,(A 130)] fun c=>Qab G a) (Qab G a)
def Qeo(G:Gt)(b a:V):=C G Qe [a] fun c=>C G Q3o [b,c] fun d=>Qen G d a
def Q6h(G:Gt)(a b:V):=Qeo G a b
def Qk0:En:=⟨_,_,func31,by kernel_rfl,_,X14 (s:=(fun G a b=>Q6h G b a)) fun G a b m=>Xc (r:=v2 (Q6h G) 1 0) rfl rfl (ts (v2 (Qeo G) 1 0) (ts (v2 (Qen G) 5 0) (ts (v1 (Qab G) 5)))) m⟩
end
end Go.Ab.Sh

set_option maxRecDepth 100000
namespace Go.Ab.Sh
open Go Go.Ab Go.Proofs Go.Proofs.Tryz
noncomputable section
def Q55(G:Gt)(a b c d j e:V):=Z 17 a b (qr 9 c fun f=>P f fun g=>qa 9 c fun l=>Y 3 l b fun n=>H 1 n fun o=>B (Xg Qgj [(0,1),(1,1),(2,1),(3,1),(4,1),(5,1),(6,1),(7,1),(8,1),(9,1),(10,1),(11,1),(12,1),(13,1),(14,1)] [(0,d),(1,j),(4,(A (-1))),(5,(A (-1))),(6,(A (-1))),(7,(A (-1))),(8,(A (-1))),(9,(A (-1)))]) fun p=>qp Qlk Qgj 15 168 o p fun q=>qi (L false 1 f g qj) (Y 3 g b fun s=>qk 1 s q (P e fun h=>F (conv (.int .u32) d) fun t=>C G Q7b [t] fun u=>qi (L false 1 e h qj) (F (qy (E [114,111,117,116,101,45,109,97,112]) h u) fun v=>qo G Q27 [a,(.func (.func Q6i) ⟨[a]⟩ ⟨[]⟩),v]))))
def Qbm(G:Gt)(c a b d e f:V):=D (bin .lss true true .int c (A 0)) (qa 9 a fun g=>N (lenK 1 g) fun h=>qa 9 a fun j=>P b fun l=>B (Xg Q93 [(0,1),(1,1),(2,1)] [(0,l)]) fun n=>qp Q5y Q93 3 48 j n fun o=>Z 9 a o (Q55 G d h a e f b)) (Q55 G d c a e f b)
def Qbn(G:Gt)(a b c d e:V):=qa 9 a fun f=>C G Q1c [f,(.func (.func Q1x) ⟨[]⟩ ⟨[b]⟩)] fun g=>Qbm G g a b c d e
def Qbo(G:Gt)(a b c d:V):=qr 0 a fun e=>Qbn G e b a c d
def Q4c(G:Gt)(a b c d:V):=S Q4 (Value.cells a).toList fun e=>Qbo G b e c d
def Qhv:En:=⟨_,_,func32,by kernel_rfl,_,Xq2 (s:=(fun G a b c d=>Q4c G b a d c)) fun G a b c d m=>Xc (r:=v4 (Q4c G) 1 0 3 2) rfl rfl (ts (v4 (Qbo G) 0 5 3 2) (ts (v5 (Qbn G) 8 5 0 3 2) (ts (v6 (Qbm G) 9 8 5 0 3 2) (ts (v6 (Q55 G) 0 9 8 3 2 5))))) m⟩
def Q56(G:Gt)(a:V):=K a
def Q57(G:Gt)(b c a:V):=Q b (C G Q5 [c,(A 131)] fun d=>Q56 G a) (Q56 G a)
def Qbp(G:Gt)(c a d b:V):=D (un .not c) (Q57 G qf b a) (B (qh a d) fun e=>Q57 G e b a)
def Qbq(G:Gt)(b c d e:V):=C G Qde [b,c] fun a=>U a 0 fun f=>U a 1 fun g=>Qbp G g f d e
def Qbr(G:Gt)(a b c d:V):=C G Qjx [a] fun e=>D (un .not e) (C G Q5 [b,(A 130)] fun f=>K (A 0)) (Qbq G a c d b)
def Qbs(G:Gt)(a b c:V):=C G Qe [a] fun d=>Qbr G d a b c
def Q4d(G:Gt)(a b c:V):=Qbs G a b c
def Qhw:En:=⟨_,_,func33,by kernel_rfl,_,Xeh (s:=(fun G a b c=>Q4d G a c b)) fun G a b c m=>Xc (r:=v3 (Q4d G) 0 2 1) rfl rfl (ts (v3 (Qbs G) 0 2 1) (ts (v4 (Qbr G) 7 0 2 1) (ts (v4 (Qbq G) 7 2 1 0) (ts (v4 (Qbp G) 9 8 1 0) (tr (tr (seqQ (f:=v1 (Q56 G) 8)) (seqQ (f:=v3 (Q57 G) 29 0 8)))))))) m⟩
def Q4e(G:Gt)(a b:V):=qr 0 a fun c=>F (qt (E [111,115,112,102]) (E [98,103,112])) fun f=>C G Qy [b,f] fun g=>D (qg g (A 0)) (C G Q6g [b] fun d=>F (qy (E [114,111,117,116,101,114]) (E [111,115,112,102]) d) fun h=>C G Q27 [a,(.func (.func Q8g) ⟨[a]⟩ ⟨[]⟩),h] fun v=>qa 10 c fun j=>B (Xg Qn2 [(0,1),(1,1),(2,1)] [(0,d)]) fun l=>qp Qrn Qn2 3 48 j l fun n=>Z 10 c n (qv)) (C G Q2 [b,(A 1),(A 4294967295)] fun o=>C G Q6g [b] fun e=>F (qy (E [114,111,117,116,101,114]) (E [98,103,112]) e) fun p=>C G Q27 [a,(.func (.func Q94) ⟨[a]⟩ ⟨[]⟩),p] fun w=>qa 11 c fun q=>F (conv (.int .u32) o) fun s=>B (Xg Qk1 [(0,1),(1,1),(2,1),(3,1),(4,1),(5,1)] [(0,e),(1,s)]) fun t=>qp Qo8 Qk1 6 96 q t fun u=>Z 11 c u (qv))
def Qhx:En:=⟨_,_,func34,by kernel_rfl,_,X14 (s:=Q4e) fun G a b m=>Xc (r:=v2 (Q4e G) 0 1) rfl rfl (fun r m=>by kernel_rfl) m⟩
def Q4p(G:Gt)(a b:V):=C G Qbg [a] fun c=>qo G Q10 [a,c,b]
def Qk2:En:=⟨_,_,func35,by kernel_rfl,_,X14 (s:=Q4p) fun G a b m=>Xc (r:=v2 (Q4p G) 0 1) rfl rfl (fun r m=>by kernel_rfl) m⟩
def Q2s(G:Gt)(a:V):=D (bin .lss true true .int a (A 0)) (B (X a (A 1)) fun b=>B (un .neg b) fun c=>F (conv (.int .u64) c) fun d=>B (X d (.int .u64 1)) fun e=>C G Q6j [e] fun f=>B (bin .add true true .str (E [45]) f) fun g=>K g) (F (conv (.int .u64) a) fun h=>C G Q6j [h] fun j=>K j)
def Qhy:En:=⟨_,_,func39,by kernel_rfl,_,X19 (s:=Q2s) fun G a m=>Xc (r:=v1 (Q2s G) 0) rfl rfl (fun r m=>by kernel_rfl) m⟩
def Qgk(G:Gt)(a:V):=K a
def Q25(G:Gt):Nat→V→V→V→M→R
 | 0,_,_,_,_=>none
 | i + 1,a,b,c,m=>(N (lenK 1 b) fun d=>D (qh a d) (qx 1 b a fun e=>F (conv (.int .i64) e) fun f=>qp Qm [(A 0)] 1 8 c f fun g=>B (X a (A 1)) fun h=>(Q25 G i) h b g) (Qgk G c)) m
def Qaz(G:Gt)(a b c:V):=Q25 G G.rds a b c
def Qb0(G:Gt)(a b:V):=Qaz G (A 0) a b
def Qb1(G:Gt)(a:V):=N (lenK 1 a) fun b=>F (X5 Qm [(A 0)] 1 1 [(0,b)]) fun c=>Qb0 G a c
def Q2j(G:Gt)(a:V):=Qb1 G a
def Qh0:En:=⟨_,_,func40,by kernel_rfl,_,X19 (s:=Q2j) fun G a m=>Xc (r:=v1 (Q2j G) 0) rfl rfl (ts (v1 (Qb1 G) 0) (ts (v2 (Qb0 G) 0 3) (tr (tr (seqQ (f:=v1 (Qgk G) 3)) (seqQ (f:=v3 (Qaz G) 4 0 3) (tr (Xj (X1r (fun i r m=>Q25 G i (r 4) (r 0) (r 3) m) (fun _ _=>rfl) (fun i0=>fun r m=>by kernel_rfl))))))))) m⟩
def Qdf(G:Gt)(a:V):=K a
def Qs(G:Gt):Nat→V→V→V→M→R
 | 0,_,_,_,_=>none
 | i + 1,a,b,c,m=>(N (lenK 1 b) fun d=>D (qh a d) (Y 4 b a fun e=>H 0 e fun f=>F (conv (.int .i64) f) fun g=>Y 4 b a fun h=>H 1 h fun j=>Y 4 b a fun l=>H 2 l fun n=>F (conv (.int .i64) n) fun o=>F (X5 Qm [(A 0)] 1 3 [(0,g),(1,j),(2,o)]) fun p=>Y 4 b a fun q=>H 3 q fun s=>F (qw s) fun t=>C G Q0 [p,t] fun u=>B (bin .add false true .str c u) fun v=>B (X a (A 1)) fun w=>(Qs G i) w b v) (Qdf G c)) m
def Q8l(G:Gt)(a b c:V):=Qs G G.rds a b c
def Q8m(G:Gt)(a b:V):=Q8l G (A 0) a b
def Q8n(G:Gt)(a:V):=N (lenK 1 a) fun b=>F (X5 Qm [(A 0)] 1 1 [(0,b)]) fun c=>C G Q0 [c,(.slice none 0 0)] fun d=>Q8m G a d
def Q2a(G:Gt)(a:V):=Q8n G a
def Qft:En:=⟨_,_,func41,by kernel_rfl,_,X19 (s:=Q2a) fun G a m=>Xc (r:=v1 (Q2a G) 0) rfl rfl (ts (v1 (Q8n G) 0) (ts (v2 (Q8m G) 0 3) (tr (tr (seqQ (f:=v1 (Qdf G) 3)) (seqQ (f:=v3 (Q8l G) 4 0 3) (tr (Xj (X1r (fun i r m=>Qs G i (r 4) (r 0) (r 3) m) (fun _ _=>rfl) (fun i0=>fun r m=>by kernel_rfl))))))))) m⟩
def Qac(G:Gt)(a b c:V):=Y 1 a b fun d=>T 1 d c (B (X b (A 1)) fun e=>B (X7a 1 a none (some e)) fun f=>K f)
def Q7f(G:Gt):Nat→V→V→V→V→V→V→M→R
 | 0,_,_,_,_,_,_,_=>none
 | i + 1,a,f,b,d,c,g,m=>(D (qh a f) (C G Qgc [b,d] fun e=>D (bin .lss true true .int e (A 0)) (Qac G c a b) (B (bin .add false true .int e g) fun h=>B (Xw b none (some h)) fun j=>Y 1 c a fun l=>T 1 l j (N (lenK 0 d) fun n=>B (bin .add false true .int e n) fun o=>B (Xw b (some o) none) fun p=>B (X a (A 1)) fun q=>(Q7f G i) q f p d c g))) (Qac G c a b)) m
def Qep(G:Gt)(a b c d e f:V):=Q7f G G.rds a b c d e f
def Qeq(G:Gt)(a b c d e:V):=Qep G (A 0) a b c d e
def Qer(G:Gt)(a b c d e:V):=B (bin .sub true true .int a (A 1)) fun f=>Qeq G f b c d e
def Qes(G:Gt)(a b c d:V):=F (X3j Q4 [(E [])] 1 16 a a) fun e=>Qer G a b c e d
def Qad(G:Gt)(b a c d:V):=N (lenK 0 a) fun e=>B (X e (A 1)) fun f=>B (aMin b f) fun g=>Qes G g a c d
def Qet(G:Gt)(c a b d:V):=D (bin .lss true true .int c (A 0)) (C G Q9o [a,b] fun e=>B (X e (A 1)) fun f=>Qad G f a b d) (Qad G c a b d)
def Qeu(G:Gt)(a b c d:V):=D (qd a (E [])) (C G Qoy [b,c] fun e=>K e) (Qet G c b a d)
def Qev(G:Gt)(a b c d:V):=D (qg a (A 0)) (K (.slice none 0 0)) (Qeu G b c a d)
def Q4q(G:Gt)(a b c d:V):=Qev G a b c d
def Qk3:En:=⟨_,_,func42,by kernel_rfl,_,Xq2 (s:=(fun G a b c d=>Q4q G d b a c)) fun G a b c d m=>Xc (r:=v4 (Q4q G) 3 1 0 2) rfl rfl (ts (v4 (Qev G) 3 1 0 2) (ts (v4 (Qeu G) 1 0 3 2) (ts (v4 (Qet G) 3 0 1 2) (ts (v4 (Qad G) 3 0 1 2) (ts (v4 (Qes G) 3 0 1 2) (ts (v5 (Qer G) 3 0 1 9 2) (ts (v5 (Qeq G) 3 0 1 9 2) (ts (v6 (Qep G) 10 3 0 1 9 2) (tr (tr (seqQ (f:=v3 (Qac G) 9 10 0)) (Xj (X1r (fun i r m=>Q7f G i (r 10) (r 3) (r 0) (r 1) (r 9) (r 2) m) (fun _ _=>rfl) (fun i0=>fun r m=>by kernel_rfl))))))))))))) m⟩
def Qb2(G:Gt)(a:V):=K a
def Q7g(G:Gt)(k0:J2)(b a c:V):=Q b (B (Xw a (some (A 1)) none) fun d=>k0 d c) (Qb2 G a)
def Q26(G:Gt):Nat→V→V→M→R
 | 0,_,_,_=>none
 | i + 1,a,b,m=>(N (lenK 0 a) fun c=>D (bin .gtr true true .int c (A 0)) (B (Xe a (A 0)) fun d=>B (bin .eql false true .int d b) fun e=>Q7g G (Q26 G i) e a b) (Q7g G (Q26 G i) qe a b)) m
def Qb3(G:Gt)(a b:V):=Q26 G G.rds a b
def Q3q(G:Gt)(a b:V):=Qb3 G a b
def Qh1:En:=⟨_,_,func43,by kernel_rfl,_,X14 (s:=Q3q) fun G a b m=>Xc (r:=v2 (Q3q G) 0 1) rfl rfl (ts (v2 (Qb3 G) 0 1) (tr (tr (seqQ (f:=v1 (Qb2 G) 0)) (Xj (X1r (fun i r m=>Q26 G i (r 0) (r 1) m) (fun _ _=>rfl) (fun i0=>tr (tr seqD (seqQ (f:=v3 (Q7g G (Q26 G i0)) 13 0 1))))))))) m⟩
def Qb4(G:Gt)(a:V):=qc true 256 a fun b=>qq (Xd 256 a b) fun _=>fun m=>ob (ob (X8 true 256 a m) fun v=>ob (some [qf]) fun l=>some (v :: l)) fun l=>some (X1i l,m)
def Q2t(G:Gt):Nat→V→V→V→M→R
 | 0,_,_,_,_=>none
 | i + 1,b,c,a,m=>(N (lenK 0 c) fun e=>D (qh b e) (B (Xe c b) fun d=>D (bin .geq true true .int d (.int .u8 128)) (qc true 256 a fun f=>qq (Xd 256 a f) fun _=>fun m=>ob (ob (X8 true 256 a m) fun v=>ob (some [qe]) fun l=>some (v :: l)) fun l=>some (X1i l,m)) (B (X20 256 1 a d) fun g=>T 1 g qf (B (X b (A 1)) fun h=>(Q2t G i) h c a))) (Qb4 G a)) m
def Qb5(G:Gt)(a b c:V):=Q2t G G.rds a b c
def Qb6(G:Gt)(a b:V):=Qb5 G (A 0) a b
def Q3r(G:Gt)(a:V):=S Q2f Q38 fun b=>Qb6 G a b
def Qh2:En:=⟨_,_,func44,by kernel_rfl,_,X19 (s:=Q3r) fun G a m=>Xc (r:=v1 (Q3r G) 0) rfl rfl (ts (v2 (Qb6 G) 0 2) (tr (tr (seqQ (f:=v1 (Qb4 G) 2)) (seqQ (f:=v3 (Qb5 G) 4 0 2) (tr (Xj (X1r (fun i r m=>Q2t G i (r 4) (r 0) (r 2) m) (fun _ _=>rfl) (fun i0=>fun r m=>by kernel_rfl)))))))) m⟩
def Q75(G:Gt)(a:V):=K a
def Q43(G:Gt):Nat→V→V→M→R
 | 0,_,_,_=>none
 | i + 1,a,b,m=>(N (lenK 0 a) fun c=>D (bin .gtr true true .int c (A 0)) (B (Xe a (A 0)) fun d=>C G Q2u [b,d] fun e=>D (un .not e) (Q75 G a) (B (Xw a (some (A 1)) none) fun f=>(Q43 G i) f b)) (Q75 G a)) m
def Qae(G:Gt)(a b:V):=Q43 G G.rds a b
def Q3c(G:Gt)(a b:V):=Qae G a b
def Qgw:En:=⟨_,_,func45,by kernel_rfl,_,X14 (s:=Q3c) fun G a b m=>Xc (r:=v2 (Q3c G) 0 1) rfl rfl (ts (v2 (Qae G) 0 1) (tr (tr (seqQ (f:=v1 (Q75 G) 0)) (Xj (X1r (fun i r m=>Q43 G i (r 0) (r 1) m) (fun _ _=>rfl) (fun i0=>fun r m=>by kernel_rfl)))))) m⟩
end
end Go.Ab.Sh

set_option maxRecDepth 100000
namespace Go.Ab.Sh
open Go Go.Ab Go.Proofs Go.Proofs.Tryz
noncomputable section
def Q2c(G:Gt)(a c:V):=C G Q1o [a,c] fun b=>D (bin .geq true true .int b (A 0)) (B (Xw a none (some b)) fun d=>N (lenK 0 c) fun e=>B (bin .add false true .int b e) fun f=>B (Xw a (some f) none) fun g=>K (.tuple ⟨[d,g,qf]⟩)) (K (.tuple ⟨[a,(E []),qe]⟩))
def Qfu:En:=⟨_,_,func47,by kernel_rfl,_,X14 (s:=Q2c) fun G a b m=>Xc (r:=v2 (Q2c G) 0 1) rfl rfl (fun r m=>by kernel_rfl) m⟩
def Qll(G:Gt):=K qf
def Q95(G:Gt)(k0:J1)(a b:V):=Q a (K qe) (k0 b)
def Q7h(G:Gt)(k0:J1)(c d b a:V):=D (un .not c) (D (qg d (A 0)) (Q95 G k0 qf a) (D (bin .lss true true .int b (.int .i32 48)) (C G Q28 [(E [45,95,46,47]),b] fun e=>B (bin .lss true true .int e (A 0)) fun f=>Q95 G k0 f a) (D (bin .gtr true true .int b (.int .i32 57)) (C G Q28 [(E [45,95,46,47]),b] fun g=>B (bin .lss true true .int g (A 0)) fun h=>Q95 G k0 h a) (Q95 G k0 qe a)))) (Q95 G k0 qe a)
def Qlm(G:Gt)(k0:J1)(a b c:V):=D (bin .geq true true .int a (.int .i32 97)) (D (bin .leq true true .int a (.int .i32 122)) (Q7h G k0 qf b a c) (D (bin .geq true true .int a (.int .i32 65)) (B (bin .leq true true .int a (.int .i32 90)) fun d=>Q7h G k0 d b a c) (Q7h G k0 qe b a c))) (D (bin .geq true true .int a (.int .i32 65)) (B (bin .leq true true .int a (.int .i32 90)) fun e=>Q7h G k0 e b a c) (Q7h G k0 qe b a c))
def Qln(G:Gt)(k0:J1)(a b:V):=U a 1 fun c=>U a 2 fun d=>Qlm G k0 d c b
def Qi7(G:Gt)(k0:J1)(a b c:V):=Q a (Qln G k0 b c) (Qll G)
def Q2v(G:Gt):Nat→V→M→R
 | 0,_,_=>none
 | i + 1,a,m=>(F (X45 a) fun b=>U b 0 fun c=>Qi7 G (Q2v G i) c b a) m
def Qlo(G:Gt)(a:V):=Q2v G G.rds a
def Qlp(G:Gt)(a:V):=F (X3w a) fun b=>Qlo G b
def Qhm(G:Gt)(a b:V):=Q a (K qe) (Qlp G b)
def Qlq(G:Gt)(a:V):=D (qd a (E [])) (Qhm G qf a) (N (lenK 0 a) fun b=>B (bin .gtr true true .int b (A 32)) fun c=>Qhm G c a)
def Qgq(G:Gt)(a:V):=Qlq G a
def Qph:En:=⟨_,_,func48,by kernel_rfl,_,X19 (s:=Qgq) fun G a m=>Xc (r:=v1 (Qgq G) 0) rfl rfl (ts (v1 (Qlq G) 0) (tr (tr (seqQ (f:=v1 (Qlp G) 0) (tr (tr (seqQ (f:=v0 (Qll G))) (seqQ (f:=v1 (Qlo G) 14) (tr (Xj (X1r (fun i r m=>Q2v G i (r 14) m) (fun _ _=>rfl) (fun i0=>tr (seqQ (f:=v3 (Qi7 G (Q2v G i0)) 16 15 14) (ts (v2 (Qln G (Q2v G i0)) 15 14) (tr (Xj (seqQ (f:=v3 (Qlm G (Q2v G i0)) 4 3 14) (ts (v4 (Q7h G (Q2v G i0)) 5 3 4 14) (ts (v2 (Q95 G (Q2v G i0)) 51 14)))))))))))))))) (seqQ (f:=v2 (Qhm G) 12 0))))) m⟩
def Q4f(G:Gt)(a b:V):=qa 13 a fun c=>F (qy (E [105,110]) c (E [46])) fun d=>F (apS Q4 1 16 d b) fun e=>qo G Q2w [a,e]
def Qhz:En:=⟨_,_,func50,by kernel_rfl,_,X14 (s:=Q4f) fun G a b m=>Xc (r:=v2 (Q4f G) 0 1) rfl rfl (fun r m=>by kernel_rfl) m⟩
def Q6l(G:Gt)(a:V):=K a
def Q9p(G:Gt)(b c a:V):=D (bin .neq true true .int b (A 0)) (C G Q5 [c,(A 130)] fun d=>Q6l G a) (Q6l G a)
def Qdg(G:Gt)(a:V):=C G Qe [a] fun c=>C G Qgl [c] fun b=>U b 0 fun d=>U b 1 fun e=>Q9p G e a d
def Q5j(G:Gt)(a:V):=Qdg G a
def Qir:En:=⟨_,_,func51,by kernel_rfl,_,X19 (s:=Q5j) fun G a m=>Xc (r:=v1 (Q5j G) 0) rfl rfl (ts (v1 (Qdg G) 0) (ts (v3 (Q9p G) 4 0 3) (ts (v1 (Q6l G) 3)))) m⟩
def Q6m(G:Gt)(a:V):=K a
def Q9q(G:Gt)(b c a:V):=D (bin .neq true true .int b (A 0)) (C G Q5 [c,(A 10)] fun d=>Q6m G a) (Q6m G a)
def Q6n(G:Gt)(b c:V):=C G Qjy [b] fun a=>U a 0 fun d=>U a 1 fun e=>Q9q G e c d
def Qdh(G:Gt)(c a b:V):=Q c (B (un .xor a) fun d=>Q6n G d b) (Q6n G a b)
def Qdi(G:Gt)(a b:V):=C G Qz [a] fun c=>Qdh G b c a
def Q5k(G:Gt)(a b:V):=Qdi G a b
def Qis:En:=⟨_,_,func52,by kernel_rfl,_,X14 (s:=Q5k) fun G a b m=>Xc (r:=v2 (Q5k G) 0 1) rfl rfl (ts (v2 (Qdi G) 0 1) (ts (v3 (Qdh G) 1 5 0) (ts (v2 (Q6n G) 5 0) (ts (v3 (Q9q G) 7 0 6) (ts (v1 (Q6m G) 6)))))) m⟩
def Q6o(G:Gt)(a:V):=C G Qg [a,(E [118,114,102])] fun b=>Q b (C G Qd [a] fun c=>K c) (K (E []))
def Qk4:En:=⟨_,_,func53,by kernel_rfl,_,X19 (s:=Q6o) fun G a m=>Xc (r:=v1 (Q6o G) 0) rfl rfl (fun r m=>by kernel_rfl) m⟩
def Q7i(G:Gt)(b a:V):=qc true 2 b fun c=>qq (Xd 2 a c) fun _=>fun m=>ob (ob (X8 true 2 a m) fun v=>ob (some []) fun l=>some (v :: l)) fun l=>some (X1i l,m)
def Qew(G:Gt)(a c b:V):=qc true 2 a fun d=>C G Qgm [d] fun e=>D (bin .neq true true .int e (A 0)) (C G Q5 [c,(A 10)] fun f=>Q7i G a b) (Q7i G a b)
def Qex(G:Gt)(b c d e:V):=B (Xg Qq [(0,1),(1,1)] [(0,b),(1,c)]) fun f=>S Q16 Qq fun a=>T 2 a f (Qew G a d e)
def Q6p(G:Gt)(a b c:V):=S Q16 Qq fun d=>Qex G a b c d
def Qk5:En:=⟨_,_,func54,by kernel_rfl,_,Xeh (s:=(fun G a b c=>Q6p G b c a)) fun G a b c m=>Xc (r:=v3 (Q6p G) 1 2 0) rfl rfl (ts (v4 (Qex G) 1 2 0 6) (ts (v3 (Qew G) 7 0 6) (ts (v2 (Q7i G) 7 6)))) m⟩
def Qbh(G:Gt)(b a:V):=Q b (qa 1 a fun c=>B (X c (A 1)) fun d=>Z 1 a d (K qf)) (K qe)
def Qga(G:Gt)(a b:V)(m:M):R:=bp (G.tab Q1k [a] m) fun c m=>brt c (bp (pur (X21 a) m) fun d m=>bp (pur (Xx 0 d) m) fun e m=>bp (pur (X8 false 1 e m) m) fun f m=>bp (pur (X21 a) m) fun g m=>bp (pur (Xx 1 g) m) fun h m=>bp (pur (X8 false 1 h m) m) fun j m=>bp (pur (Xa 3 f j) m) fun l m=>bp (pur (Xx 0 l) m) fun n m=>bp (pur (X8 false 1 n m) m) fun o m=>bp (pur (bin .eql false true .str o b) m) fun p m=>Qbh G p a m) (Qbh G (.bool false) a m) (none)
def Q7v(G:Gt)(a b:V):=Qga G a b
def Ql7:En:=⟨_,_,func55,by kernel_rfl,_,X14 (s:=Q7v) fun G a b m=>Xc (r:=v2 (Q7v G) 0 1) rfl rfl (ts (v2 (Qga G) 0 1) (tr (tr seqD (seqQ (f:=v2 (Qbh G) 21 0))))) m⟩
def Qaf(G:Gt)(a:V):=K a
def Qey(G:Gt)(a b:V):=D (qg a (.int .u32 0)) (C G Q5 [b,(A 131)] fun c=>Qaf G a) (Qaf G a)
def Qez(G:Gt)(a:V):=C G Qz [a] fun b=>Qey G b a
def Q6q(G:Gt)(a:V):=Qez G a
def Qk6:En:=⟨_,_,func56,by kernel_rfl,_,X19 (s:=Q6q) fun G a m=>Xc (r:=v1 (Q6q G) 0) rfl rfl (ts (v1 (Qez G) 0) (ts (v2 (Qey G) 3 0) (ts (v1 (Qaf G) 3)))) m⟩
def Q1v(G:Gt)(b a c:V):=C G Q8h [b] fun d=>O 2 a fun e=>T 2 e d (H 1 a fun f=>C G Q7j [b,f] fun g=>O 6 a fun h=>T 2 h g (C G Q8h [b] fun j=>O 4 a fun l=>T 2 l j (H 1 a fun n=>C G Q7j [b,n] fun o=>O 8 a fun p=>T 2 p o (qa 1 c fun q=>qc true 10 a fun s=>qp Qlc Qgr 10 64 q s fun t=>Z 1 c t (qv)))))
def Qdj(G:Gt)(a b c:V):=C G Qg [a,(E [97,110,121])] fun d=>Q d (qk 1 b (A (-1)) (Q1v G a b c)) (C G Qg [a,(E [116,99,112])] fun e=>Q e (qk 1 b (A 6) (Q1v G a b c)) (C G Qg [a,(E [117,100,112])] fun f=>Q f (qk 1 b (A 17) (Q1v G a b c)) (C G Qg [a,(E [105,99,109,112])] fun g=>Q g (qk 1 b (A 1) (Q1v G a b c)) (C G Q2 [a,(A 0),(A 255)] fun h=>qk 1 b h (Q1v G a b c)))))
def Qdk(G:Gt)(a c:V):=F (qt (E [112,101,114,109,105,116]) (E [100,101,110,121])) fun d=>C G Qy [a,d] fun e=>B (qg e (A 0)) fun f=>B (Xg Qgr [(0,1),(1,1),(2,2),(4,2),(6,2),(8,2)] [(0,f)]) fun g=>S Qlc Qgr fun b=>T 10 b g (Qdj G a b c)
def Q5l(G:Gt)(a b:V):=qr 0 a fun c=>H 4 c fun d=>qr 0 a fun e=>H 4 e fun f=>N (lenK 1 f) fun g=>B (bin .sub true true .int g (A 1)) fun h=>Y 2 d h fun j=>Qdk G b j
def Qit:En:=⟨_,_,func57,by kernel_rfl,_,X14 (s:=Q5l) fun G a b m=>Xc (r:=v2 (Q5l G) 0 1) rfl rfl (ts (v2 (Qdk G) 1 4) (ts (v3 (Qdj G) 1 5 4) (ts (v3 (Q1v G) 1 5 4)))) m⟩
def Q61(G:Gt)(b a:V):=qc true 5 b fun c=>qq (Xd 5 a c) fun _=>fun m=>ob (ob (X8 true 5 a m) fun v=>ob (some []) fun l=>some (v :: l)) fun l=>some (X1i l,m)
def Q62(G:Gt)(b a c:V):=C G Qg [b,(E [108,101])] fun d=>Q d (H 3 a fun e=>C G Q2 [b,e,(A 32)] fun f=>qk 4 a f (Q61 G a c)) (Q61 G a c)
def Q8v(G:Gt)(a d b c:V):=C G Qg [a,(E [103,101])] fun e=>Q e (H 1 d fun f=>C G Q2 [a,f,(A 32)] fun g=>qk 3 b g (qk 4 b (A 32) (Q62 G a b c))) (Q62 G a b c)
def Q3s(G:Gt)(a b g h:V):=qc true 2 a fun j=>O 1 a fun e=>P e fun f=>O 1 a fun c=>P c fun d=>O 1 b fun l=>T 2 l j (qi (L false 1 e f (L false 1 c d qj)) (qk 3 b f (qi (L false 1 c d qj) (qk 4 b d (Q8v G g a b h)))))
def Qcj(G:Gt)(e b c a d:V):=D (qg e (A 0)) (Q3s G b c a d) (D (qg e (A 10)) (C G Q5 [a,(A 10)] fun f=>Q3s G b c a d) (C G Q5 [a,(A 130)] fun g=>Q3s G b c a d))
def Qck(G:Gt)(a d e:V):=C G Qe [a] fun f=>C G Qc7 [f] fun b=>U b 0 fun g=>U b 1 fun h=>S Q16 Qq fun c=>T 2 c g (Qcj G h c d a e)
def Qcl(G:Gt)(a c:V):=F (qt (E [112,101,114,109,105,116]) (E [100,101,110,121])) fun d=>C G Qy [a,d] fun e=>B (qg e (A 0)) fun f=>B (Xg Q34 [(0,1),(1,2),(3,1),(4,1)] [(0,f)]) fun g=>S Qfz Q34 fun b=>T 5 b g (Qck G a b c)
def Q4y(G:Gt)(a:V):=S Qfz Q34 fun b=>Qcl G a b
def Qi8:En:=⟨_,_,func58,by kernel_rfl,_,X19 (s:=Q4y) fun G a m=>Xc (r:=v1 (Q4y G) 0) rfl rfl (ts (v2 (Qcl G) 0 2) (ts (v3 (Qck G) 0 3 2) (ts (v5 (Qcj G) 5 4 3 0 2) (ts (v4 (Q3s G) 4 3 0 2) (ts (v4 (Q8v G) 0 4 3 2) (ts (v3 (Q62 G) 0 3 2) (ts (v2 (Q61 G) 3 2)))))))) m⟩
end
end Go.Ab.Sh

set_option maxRecDepth 100000
namespace Go.Ab.Sh
open Go Go.Ab Go.Proofs Go.Proofs.Tryz
noncomputable section
def Q15(G:Gt):=K (A (-1))
def Qa(G:Gt):Nat→V→V→V→V→M→R
 | 0,_,_,_,_,_=>none
 | i + 1,a,b,c,d,m=>(D (qh a b) (Y 2 d a fun e=>qc true 2 e fun f=>F (X52 G.tab c [f]) fun g=>Q g (K a) (B (X a (A 1)) fun h=>(Qa G i) h b c d)) (Q15 G)) m
def Q1s(G:Gt)(a b c d:V):=Qa G G.rds a b c d
def Q1t(G:Gt)(a b:V):=N (lenK 1 a) fun c=>Q1s G (A 0) c b a
def Qk(G:Gt)(a b:V):=Q1t G a b
def Q3x:En:=⟨_,_,func59,by kernel_rfl,_,X14 (s:=Qk) fun G a b m=>Xc (r:=v2 (Qk G) 0 1) rfl rfl (ts (v2 (Q1t G) 0 1) (tr (tr (seqQ (f:=v0 (Q15 G))) (seqQ (f:=v4 (Q1s G) 8 7 1 0) (tr (Xj (X1r (fun i r m=>Qa G i (r 8) (r 7) (r 1) (r 0) m) (fun _ _=>rfl) (fun i0=>fun r m=>by kernel_rfl)))))))) m⟩
def Q5m(G:Gt)(a b:V):=S Q6e (Value.cells a).toList fun c=>H 0 c fun d=>P b fun e=>B (bin .eql false true .str d e) fun f=>K f
def Qiu:En:=⟨_,_,func60,by kernel_rfl,_,X14 (s:=Q5m) fun G a b m=>Xc (r:=v2 (Q5m G) 0 1) rfl rfl (fun r m=>by kernel_rfl) m⟩
def Qcm(G:Gt)(a:V):=K a
def Q63(G:Gt)(k0:J3)(b c a:V):=qp Qn4 [(.int .u32 0)] 1 4 b c fun d=>C G Q1k [a] fun e=>k0 e a d
def Qcn(G:Gt)(k0:J3)(d a b c:V):=D (bin .neq true true .int d (A 0)) (C G Q5 [a,(A 130)] fun e=>Q63 G k0 b c a) (Q63 G k0 b c a)
def Qco(G:Gt)(k0:J3)(a c:V):=C G Qe [a] fun d=>C G Qhn [d] fun b=>U b 0 fun e=>U b 1 fun f=>Qcn G k0 f a c e
def Q1e(G:Gt):Nat→V→V→V→M→R
 | 0,_,_,_,_=>none
 | i + 1,b,c,a,m=>(Q b (Qco G (Q1e G i) c a) (Qcm G a)) m
def Qcp(G:Gt)(a b c:V):=Q1e G G.rds a b c
def Qcq(G:Gt)(a b:V):=Qcp G qf a b
def Qcr(G:Gt)(a:V):=Qcq G a (.slice none 0 0)
def Q3j(G:Gt)(a:V):=Qcr G a
def Qi9:En:=⟨_,_,func61,by kernel_rfl,_,X19 (s:=Q3j) fun G a m=>Xc (r:=v1 (Q3j G) 0) rfl rfl (ts (v1 (Qcr G) 0) (ts (v2 (Qcq G) 0 3) (tr (tr (seqQ (f:=v1 (Qcm G) 3)) (seqQ (f:=v3 (Qcp G) 4 0 3) (tr (Xj (X1r (fun i r m=>Q1e G i (r 4) (r 0) (r 3) m) (fun _ _=>rfl) (fun i0=>tr (seqQ (f:=v2 (Qco G (Q1e G i0)) 0 3) (tr (tr seqD (Xj (seqQ (f:=v4 (Qcn G (Q1e G i0)) 6 0 3 5) (ts (v3 (Q63 G (Q1e G i0)) 3 5 0)))))))))))))))) m⟩
def Qx(G:Gt):=K (A (-1))
def Q6(G:Gt):Nat→V→V→V→V→M→R
 | 0,_,_,_,_,_=>none
 | i + 1,a,b,c,d,m=>(D (qh a b) (Y 2 d a fun e=>qc true 2 e fun f=>F (X52 G.tab c [f]) fun g=>Q g (K a) (B (X a (A 1)) fun h=>(Q6 G i) h b c d)) (Qx G)) m
def Q1g(G:Gt)(a b c d:V):=Q6 G G.rds a b c d
def Q1h(G:Gt)(a b:V):=N (lenK 1 a) fun c=>Q1g G (A 0) c b a
def Qb(G:Gt)(a b:V):=Q1h G a b
def Q2q:En:=⟨_,_,func62,by kernel_rfl,_,X14 (s:=Qb) fun G a b m=>Xc (r:=v2 (Qb G) 0 1) rfl rfl (ts (v2 (Q1h G) 0 1) (tr (tr (seqQ (f:=v0 (Qx G))) (seqQ (f:=v4 (Q1g G) 8 7 1 0) (tr (Xj (X1r (fun i r m=>Q6 G i (r 8) (r 7) (r 1) (r 0) m) (fun _ _=>rfl) (fun i0=>fun r m=>by kernel_rfl)))))))) m⟩
def Q5n(G:Gt)(a b:V):=S Q3z (Value.cells a).toList fun c=>H 0 c fun d=>P b fun e=>B (bin .eql false true .str d e) fun f=>K f
def Qiv:En:=⟨_,_,func63,by kernel_rfl,_,X14 (s:=Q5n) fun G a b m=>Xc (r:=v2 (Q5n G) 0 1) rfl rfl (fun r m=>by kernel_rfl) m⟩
def Q5o(G:Gt)(a b:V):=C G Qe [a] fun c=>D (bin .neq false true .str c b) (qo G Q5 [a,(A 130)]) (qv)
def Qiw:En:=⟨_,_,func64,by kernel_rfl,_,X14 (s:=Q5o) fun G a b m=>Xc (r:=v2 (Q5o G) 0 1) rfl rfl (fun r m=>by kernel_rfl) m⟩
def Q64(G:Gt):=K (A (-1))
def Q1j(G:Gt):Nat→V→V→V→V→M→R
 | 0,_,_,_,_,_=>none
 | i + 1,a,b,c,d,m=>(D (qh a b) (qx 1 d a fun e=>D (bin .eql false true .str c e) (K a) (B (X a (A 1)) fun f=>(Q1j G i) f b c d)) (Q64 G)) m
def Q65(G:Gt)(a b c d:V):=Q1j G G.rds a b c d
def Q66(G:Gt)(a b:V):=N (lenK 1 a) fun c=>Q65 G (A 0) c b a
def Q1r(G:Gt)(a b:V):=Q66 G a b
def Qbj:En:=⟨_,_,func65,by kernel_rfl,_,X14 (s:=Q1r) fun G a b m=>Xc (r:=v2 (Q1r G) 0 1) rfl rfl (ts (v2 (Q66 G) 0 1) (tr (tr (seqQ (f:=v0 (Q64 G))) (seqQ (f:=v4 (Q65 G) 8 7 1 0) (tr (Xj (X1r (fun i r m=>Q1j G i (r 8) (r 7) (r 1) (r 0) m) (fun _ _=>rfl) (fun i0=>fun r m=>by kernel_rfl)))))))) m⟩
def Q1l(G:Gt):=K (A (-1))
def Qh(G:Gt):Nat→V→V→V→V→M→R
 | 0,_,_,_,_,_=>none
 | i + 1,a,b,c,d,m=>(D (qh a b) (Y 3 d a fun e=>qc true 3 e fun f=>F (X52 G.tab c [f]) fun g=>Q g (K a) (B (X a (A 1)) fun h=>(Qh G i) h b c d)) (Q1l G)) m
def Q2g(G:Gt)(a b c d:V):=Qh G G.rds a b c d
def Q2h(G:Gt)(a b:V):=N (lenK 1 a) fun c=>Q2g G (A 0) c b a
def Qu(G:Gt)(a b:V):=Q2h G a b
def Q6d:En:=⟨_,_,func66,by kernel_rfl,_,X14 (s:=Qu) fun G a b m=>Xc (r:=v2 (Qu G) 0 1) rfl rfl (ts (v2 (Q2h G) 0 1) (tr (tr (seqQ (f:=v0 (Q1l G))) (seqQ (f:=v4 (Q2g G) 8 7 1 0) (tr (Xj (X1r (fun i r m=>Qh G i (r 8) (r 7) (r 1) (r 0) m) (fun _ _=>rfl) (fun i0=>fun r m=>by kernel_rfl)))))))) m⟩
def Q3d(G:Gt)(a b:V):=S Q5y (Value.cells a).toList fun c=>H 0 c fun d=>P b fun e=>B (bin .eql false true .str d e) fun f=>K f
def Qgx:En:=⟨_,_,func67,by kernel_rfl,_,X14 (s:=Q3d) fun G a b m=>Xc (r:=v2 (Q3d G) 0 1) rfl rfl (fun r m=>by kernel_rfl) m⟩
def Q1a(G:Gt)(a b c:V):=F (qt b c) fun d=>qo G Q7 [a,d]
def Qf0(G:Gt)(a e b c d:V):=D (qd a (E [112,114,101,102,105,120,45,108,105,115,116])) (C G Qd [b] fun f=>Z 2 e f (Q1a G c d a)) (D (qd a (E [99,111,109,109,117,110,105,116,121,45,108,105,115,116])) (C G Qd [b] fun g=>Z 3 e g (Q1a G c d a)) (D (qd a (E [116,97,103])) (C G Q2 [b,(A 0),(A 16777216)] fun h=>Z 4 e h (Q1a G c d a)) (D (qd a (E [109,101,116,114,105,99])) (C G Q2 [b,(A 0),(A 16777216)] fun j=>Z 5 e j (Q1a G c d a)) (D (qd a (E [97,115])) (C G Q2 [b,(A 1),(A 4294967295)] fun l=>Z 6 e l (Q1a G c d a)) (C G Q5 [b,(A 130)] fun n=>Q1a G c d a)))))
def Qf1(G:Gt)(f a b c d e:V):=Q f (C G Qe [a] fun g=>Qf0 G g b a c d) (D (qd e (E [115,101,116])) (C G Qc8 [c,a,b] fun h=>F (qt d h) fun j=>qo G Q7 [c,j]) (D (qd e (E [99,111,110,116,105,110,117,101])) (qa 0 b fun l=>B (X l (A 1)) fun n=>C G Q2 [a,n,(A 65535)] fun o=>Z 14 b o (F (qw d) fun p=>qo G Q7 [c,p])) (qo G Q5 [a,(A 130)])))
def Qf2(G:Gt)(a b c d e:V):=B (qd a (E [109,97,116,99,104])) fun f=>Qf1 G f b c d e a
def Qf3(G:Gt)(a b c d:V):=Qf2 G a b c d a
def Qf4(G:Gt)(a b c:V):=C G Qe [a] fun d=>Qf3 G d a b c
def Qf5(G:Gt)(a b c:V):=N (lenK 1 a) fun d=>B (bin .sub true true .int d (A 1)) fun e=>Y 15 a e fun f=>Qf4 G b f c
def Q6r(G:Gt)(a b:V):=qr 0 a fun c=>H 9 c fun d=>qa 17 a fun e=>Y 3 d e fun f=>H 1 f fun g=>Qf5 G g b a
def Qk7:En:=⟨_,_,func68,by kernel_rfl,_,X14 (s:=Q6r) fun G a b m=>Xc (r:=v2 (Q6r G) 0 1) rfl rfl (ts (v3 (Qf5 G) 4 1 0) (ts (v3 (Qf4 G) 1 5 0) (ts (v4 (Qf3 G) 6 1 5 0) (ts (v5 (Qf2 G) 27 1 5 0 6) (tr (Xj (seqQ (f:=v6 (Qf1 G) 30 1 5 0 6 27) (tr (X40 (seqQ (f:=v5 (Qf0 G) 7 5 1 0 6) (ts (v3 (Q1a G) 0 6 7))) (refQ)))))))))) m⟩
def Qkj(G:Gt)(a:V):=N (X3v 4 1 a none none) fun b=>C G Q3t [b,(E [46])] fun c=>K c
def Qby(G:Gt):Nat→V→V→V→M→R
 | 0,_,_,_,_=>none
 | i + 1,a,c,b,m=>(D (bin .lss true true .int a (A 4)) (B (bin .mul true true .int (A 8) a) fun d=>B (bin .sub true true .int (A 24) d) fun e=>B (bin .shr false true .int c e) fun f=>B (bin .and true true .int f (.int .u32 255)) fun g=>F (conv (.int .i64) g) fun h=>C G Q21 [h] fun j=>B (X20 4 1 b a) fun l=>T 1 l j (B (X a (A 1)) fun n=>(Qby G i) n c b)) (Qkj G b)) m
def Qkk(G:Gt)(a b c:V):=Qby G G.rds a b c
def Qkl(G:Gt)(a b:V):=Qkk G (A 0) a b
def Qkm(G:Gt)(a:V):=S Qm8 Qm9 fun b=>Qkl G a b
def Qg0(G:Gt)(a:V):=Qkm G a
def Qp3:En:=⟨_,_,func69,by kernel_rfl,_,X19 (s:=Qg0) fun G a m=>Xc (r:=v1 (Qg0 G) 0) rfl rfl (ts (v1 (Qkm G) 0) (ts (v2 (Qkl G) 0 3) (tr (tr (seqQ (f:=v1 (Qkj G) 3)) (seqQ (f:=v3 (Qkk G) 5 0 3) (tr (Xj (X1r (fun i r m=>Qby G i (r 5) (r 0) (r 3) m) (fun _ _=>rfl) (fun i0=>fun r m=>by kernel_rfl))))))))) m⟩
def Qbz(G:Gt)(a:V):=K a
def Qkn(G:Gt)(a:V):=D (bin .neq true true .str a (E [])) (C G Qdl [a,(E [48,49,50,51,52,53,54,55,56,57])] fun b=>D (qd b (E [])) (D (qd a (E [48])) (Qbz G qf) (B (Xe a (A 0)) fun c=>B (bin .neq true true .int c (.int .u8 48)) fun d=>Qbz G d)) (Qbz G qe)) (Qbz G qe)
def Qg1(G:Gt)(a:V):=Qkn G a
def Qp4:En:=⟨_,_,func70,by kernel_rfl,_,X19 (s:=Qg1) fun G a m=>Xc (r:=v1 (Qg1 G) 0) rfl rfl (ts (v1 (Qkn G) 0) (ts (v1 (Qbz G) 2))) m⟩
end
end Go.Ab.Sh

set_option maxRecDepth 100000
namespace Go.Ab.Sh
open Go Go.Ab Go.Proofs Go.Proofs.Tryz
noncomputable section
def Q6s(G:Gt)(a b:V):=Q a (K (.tuple ⟨[(A 0),qe]⟩)) (K (.tuple ⟨[b,qf]⟩))
def Qjc(G:Gt)(b a c d:V):=D (bin .neq true false .iface b .nilIface) (Q6s G qf a) (D (bin .lss true true .int a (A 0)) (Q6s G qf a) (D (bin .gtr false true .int a c) (Q6s G qf a) (C G Q21 [a] fun e=>B (bin .neq false true .str e d) fun f=>Q6s G f a)))
def Qjd(G:Gt)(a c:V):=C G Q3u [a] fun b=>U b 0 fun d=>U b 1 fun e=>Qjc G e d c a
def Qdm(G:Gt)(a b:V):=Qjd G a b
def Qof:En:=⟨_,_,func71,by kernel_rfl,_,X14 (s:=Qdm) fun G a b m=>Xc (r:=v2 (Qdm G) 0 1) rfl rfl (ts (v2 (Qjd G) 0 1) (ts (v4 (Qjc G) 7 6 1 0) (tr (tr seqD (seqQ (f:=v2 (Q6s G) 29 6)))))) m⟩
def Q5p(G:Gt)(b a:V):=qr 0 b fun g=>H 10 g fun h=>qr 0 b fun j=>H 10 j fun l=>N (lenK 1 l) fun n=>B (bin .sub true true .int n (A 1)) fun o=>Y 3 h o fun c=>C G Qe [a] fun d=>D (qd d (E [114,111,117,116,101,114,45,105,100])) (C G Qz [a] fun p=>Z 1 c p (F (qw d) fun q=>qo G Q7 [b,q])) (D (qd d (E [114,101,100,105,115,116,114,105,98,117,116,101])) (qr 2 c fun e=>P e fun f=>C G Q4g [a,(E [98,103,112]),(.int .u8 8),qf] fun s=>qi (L false 1 e f qj) (qp Qdn Q67 4 40 f s fun t=>Z 2 c t (qv))) (qo G Q5 [a,(A 130)]))
def Qix:En:=⟨_,_,func72,by kernel_rfl,_,X14 (s:=Q5p) fun G a b m=>Xc (r:=v2 (Q5p G) 0 1) rfl rfl (fun r m=>by kernel_rfl) m⟩
def Q6t(G:Gt)(d a:V):=qr 0 d fun h=>H 11 h fun j=>qr 0 d fun l=>H 11 l fun n=>N (lenK 1 n) fun o=>B (bin .sub true true .int o (A 1)) fun p=>Y 6 j p fun b=>C G Qe [a] fun c=>D (qd c (E [114,111,117,116,101,114,45,105,100])) (C G Qz [a] fun q=>Z 2 b q (F (qw c) fun s=>qo G Q7 [d,s])) (D (qd c (E [110,101,116,119,111,114,107])) (C G Qz [a] fun t=>C G Q3y [a,qe] fun u=>C G Q6f [a,t,u] fun v=>S Q16 Qq fun e=>T 2 e v (qc true 2 e fun w=>C G Qa9 [w] fun x=>F (qt c x) fun y=>C G Q7 [d,y] fun xc=>qa 3 b fun z=>qc true 2 e fun I=>qp Q16 Qq 2 16 z I fun W=>Z 3 b W (qv))) (D (qd c (E [110,101,105,103,104,98,111,114])) (qo G Q87 [d,a,b]) (D (qd c (E [114,101,100,105,115,116,114,105,98,117,116,101])) (qr 5 b fun f=>P f fun g=>C G Q4g [a,(E [111,115,112,102]),(.int .u8 4),qe] fun xa=>qi (L false 1 f g qj) (qp Qdn Q67 4 40 g xa fun xb=>Z 5 b xb (qv))) (qo G Q5 [a,(A 130)]))))
def Qk8:En:=⟨_,_,func73,by kernel_rfl,_,X14 (s:=Q6t) fun G a b m=>Xc (r:=v2 (Q6t G) 0 1) rfl rfl (fun r m=>by kernel_rfl) m⟩
def Q40(G:Gt)(a:V):=S Q8 Q3 fun b=>qa 0 a fun c=>qa 1 a fun d=>B (aMax d (A 1)) fun e=>B (bin .sub true true .int e (A 1)) fun f=>Y 3 c f fun g=>qz true 2 1 g fun h=>qq (Xd 2 b h) fun _=>fun m=>ob (ob (X8 true 2 b m) fun v=>ob (some []) fun l=>some (v :: l)) fun l=>some (X1i l,m)
def Qiy:En:=⟨_,_,func74,by kernel_rfl,_,X19 (s:=Q40) fun G a m=>Xc (r:=v1 (Q40 G) 0) rfl rfl (fun r m=>by kernel_rfl) m⟩
def Q8j(G:Gt)(a b:V):=F (conv (.int .u8) b) fun c=>B (Xe (E [0,1,2,2,3,3,3,3,4,4,4,4,4,4,4,4,5,5,5,5,5,5,5,5,5,5,5,5,5,5,5,5,6,6,6,6,6,6,6,6,6,6,6,6,6,6,6,6,6,6,6,6,6,6,6,6,6,6,6,6,6,6,6,6,7,7,7,7,7,7,7,7,7,7,7,7,7,7,7,7,7,7,7,7,7,7,7,7,7,7,7,7,7,7,7,7,7,7,7,7,7,7,7,7,7,7,7,7,7,7,7,7,7,7,7,7,7,7,7,7,7,7,7,7,7,7,7,7,8,8,8,8,8,8,8,8,8,8,8,8,8,8,8,8,8,8,8,8,8,8,8,8,8,8,8,8,8,8,8,8,8,8,8,8,8,8,8,8,8,8,8,8,8,8,8,8,8,8,8,8,8,8,8,8,8,8,8,8,8,8,8,8,8,8,8,8,8,8,8,8,8,8,8,8,8,8,8,8,8,8,8,8,8,8,8,8,8,8,8,8,8,8,8,8,8,8,8,8,8,8,8,8,8,8,8,8,8,8,8,8,8,8,8,8,8,8,8,8,8,8,8,8,8,8,8,8]) c) fun d=>F (conv (.int .i64) d) fun e=>B (bin .add false true .int a e) fun f=>K f
def Qbi(G:Gt)(a b:V):=D (bin .geq true true .int a (.int .u32 256)) (B (bin .shr true true .int a (.int .u64 8)) fun c=>B (X b (A 8)) fun d=>Q8j G d c) (Q8j G b a)
def Qgb(G:Gt)(a b:V):=D (bin .geq true true .int a (.int .u32 65536)) (B (bin .shr true true .int a (.int .u64 16)) fun c=>Qbi G c (A 16)) (Qbi G a b)
def Q7w(G:Gt)(a:V):=Qgb G a (A 0)
def Ql8:En:=⟨_,_,func83,by kernel_rfl,_,X19 (s:=Q7w) fun G a m=>Xc (r:=v1 (Q7w G) 0) rfl rfl (ts (v2 (Qgb G) 0 2) (ts (v2 (Qbi G) 0 2) (ts (v2 (Q8j G) 2 0)))) m⟩
def Qbt(G:Gt)(a b:V):=B (X (.int .u64 48) a) fun c=>F (conv (.int .u8) c) fun d=>F (X5 Q1u [(.int .u8 0)] 1 1 [(0,d)]) fun e=>F (conv .str e) fun f=>B (bin .add false true .str f b) fun g=>K g
def Q3e(G:Gt):Nat→V→V→M→R
 | 0,_,_,_=>none
 | i + 1,a,b,m=>(D (bin .gtr true true .int a (.int .u64 9)) (B (bin .rem true true .int a (.int .u64 10)) fun c=>B (X (.int .u64 48) c) fun d=>F (conv (.int .u8) d) fun e=>F (X5 Q1u [(.int .u8 0)] 1 1 [(0,e)]) fun f=>F (conv .str f) fun g=>B (bin .add false true .str g b) fun h=>B (bin .quo true true .int a (.int .u64 10)) fun j=>(Q3e G i) j h) (Qbt G a b)) m
def Qbu(G:Gt)(a b:V):=Q3e G G.rds a b
def Qbv(G:Gt)(a:V):=Qbu G a (E [])
def Q4h(G:Gt)(a:V):=Qbv G a
def Qi0:En:=⟨_,_,func85,by kernel_rfl,_,X19 (s:=Q4h) fun G a m=>Xc (r:=v1 (Q4h G) 0) rfl rfl (ts (v1 (Qbv G) 0) (ts (v2 (Qbu G) 0 3) (tr (tr (seqQ (f:=v2 (Qbt G) 0 3)) (Xj (X1r (fun i r m=>Q3e G i (r 0) (r 3) m) (fun _ _=>rfl) (fun i0=>fun r m=>by kernel_rfl))))))) m⟩
def Q9r(G:Gt)(a b:V):=C G Q1o [a,b] fun c=>K c
def Qm2:En:=⟨_,_,func88,by kernel_rfl,_,X14 (s:=Q9r) fun G a b m=>Xc (r:=v2 (Q9r G) 0 1) rfl rfl (fun r m=>by kernel_rfl) m⟩
def Q22(G:Gt)(a b:V):=B (X21 a) fun c=>B (X20 256 1 c b) fun d=>P d fun e=>K e
def Qdo:En:=⟨_,_,func89,by kernel_rfl,_,X14 (s:=Q22) fun G a b m=>Xc (r:=v2 (Q22 G) 0 1) rfl rfl (fun r m=>by kernel_rfl) m⟩
end
end Go.Ab.Sh
