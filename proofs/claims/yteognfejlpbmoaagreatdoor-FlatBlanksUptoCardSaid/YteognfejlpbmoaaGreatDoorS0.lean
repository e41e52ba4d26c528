/-
  Functions of the program as plain definitions. No conditions.
-/
import Derived.Test.YteognfejlpbmoaaGreatDoorAb5
import Derived.Test.YteognfejlpbmoaaGreatDoorZ
import Derived.KernelRfl
import Derived.Test.YteognfejlpbmoaaGreatDoorProg
set_option linter.unusedSimpArgs false
set_option linter.unusedVariables false
set_option maxRecDepth 100000
namespace Go.Ab.Sh
open Go Go.Ab Go.Proofs Go.Proofs.Tryz
noncomputable section
def Q39(G:Gt)(a:V):=K a
def Q99(G:Gt)(a b c:V):=D (qg a (A 0)) (Q39 G qf) (D (qg a (A 5)) (Q39 G qf) (H 0 b fun d=>H 0 c fun e=>B (X e (A 2)) fun f=>B (bin .geq false true .int d f) fun g=>Q39 G g))
def Q50(G:Gt)(a b c d:V):=Q a (K qe) (Q99 G b c d)
def Q5d(G:Gt)(a f g b c d:V)(m:M):R:=bp (pur (bin .neq false true .int a f) m) fun h m=>brt h (Q50 G (.bool true) a c d m) (bp (pur (X8 true 12 g m) m) fun j m=>bp (pur (X8 true 12 b m) m) fun e m=>bp (G.tab Q41 [j] m) fun l m=>ckB (again (pur (X8 true 12 b m) m) e && true) (bp (G.tab Q41 [e] m) fun n m=>bp (pur (bin .neq false true .str l n) m) fun o m=>Q50 G o a c d m)) (none)
def Q9a(G:Gt)(d e f g:V):=C G Q97 [d] fun a=>U a 0 fun h=>U a 1 fun j=>U a 2 fun l=>S Q17 Qi fun b=>S Q8 Q3 fun c=>T 12 b h (T 2 c j (Q5d G e l f b c g))
def Q5e(G:Gt)(d e:V):=C G Q97 [d] fun a=>U a 0 fun f=>U a 1 fun g=>U a 2 fun h=>S Q17 Qi fun b=>S Q8 Q3 fun c=>T 12 b f (T 2 c g (Q9a G e h b c))
def Q51(G:Gt)(k0:J5)(a b c d e:V):=B (X a (A 1)) fun f=>k0 f b c d e
def Q2y(G:Gt)(k0:J5)(f a b c d:V):=B (bin .add true true .str f (E [32,10])) fun e=>D (bin .eql false true .int a b) (B (bin .add true true .str e (E [32,32,33,32,97,110,111,116,104,101,114,10,32,32,32,10])) fun g=>Q51 G k0 a c g b d) (Q51 G k0 a c e b d)
def Q52(G:Gt)(k1:J6)(a b c d e f:V):=B (X a (A 1)) fun g=>k1 g b c d e f
def Q8o(G:Gt)(k1:J6)(g b c a d e:V):=qx 1 b c fun h=>B (X a (A 1)) fun j=>B (Xw h (some a) (some j)) fun l=>B (bin .add false true .str g l) fun f=>qx 1 b c fun n=>B (Xe n a) fun o=>D (qg o (.int .u8 32)) (B (bin .add true true .str f (E [32,32])) fun p=>Q52 G k1 a b c p d e) (Q52 G k1 a b c f d e)
def Q11(G:Gt)(k0:J5):Nat→V→V→V→V→V→V→M→R
 | 0,_,_,_,_,_,_,_=>none
 | i + 1,c,a,b,d,e,f,m=>(qx 1 a b fun g=>N (lenK 0 g) fun h=>D (qh c h) (Q8o G (Q11 G k0 i) d a b c e f) (Q2y G k0 d b e a f)) m
def Q8p(G:Gt)(k0:J5)(a b c d e f:V):=Q11 G k0 G.rds a b c d e f
def Q8q(G:Gt)(k0:J5)(a b c d e f:V):=Q8p G k0 a b c d e f
def Q53(G:Gt)(k0:J5)(d a b c e f:V):=qx 1 a b fun g=>B (Xw g none (some c)) fun h=>B (bin .add false true .str d h) fun j=>Q8q G k0 c a b j e f
def Q2z(G:Gt)(k1:J6)(k0:J5)(g a b c d e f:V):=Q g (B (X a (A 1)) fun h=>k1 h b c d e f) (Q53 G k0 d b c a e f)
def Q12(G:Gt)(k0:J5):Nat→V→V→V→V→V→V→M→R
 | 0,_,_,_,_,_,_,_=>none
 | i + 1,a,b,c,d,e,f,m=>(qx 1 b c fun g=>N (lenK 0 g) fun h=>D (qh a h) (qx 1 b c fun j=>B (Xe j a) fun l=>B (qg l (.int .u8 32)) fun n=>Q2z G (Q12 G k0 i) k0 n a b c d e f) (Q2z G (Q12 G k0 i) k0 qe a b c d e f)) m
def Q8r(G:Gt)(k0:J5)(a b c d e f:V):=Q12 G k0 G.rds a b c d e f
def Q30(G:Gt)(k0:J5)(a b c d e:V):=Q8r G k0 (A 0) a b c d e
def Q1(G:Gt):Nat→V→V→V→V→V→M→R
 | 0,_,_,_,_,_,_=>none
 | i + 1,a,b,c,e,d,m=>(N (lenK 1 b) fun f=>D (qh a f) (Q30 G (Q1 G i) b a c e d) (Q5e G d c)) m
def Q8s(G:Gt)(a b c d e:V):=Q1 G G.rds a b c d e
def Q9b(G:Gt)(a b c d:V):=Q8s G (A 0) a b c d
def Q9c(G:Gt)(a b c:V):=Q9b G a (E [33,32,97,32,110,111,116,101,10,10]) b c
def Q23(G:Gt)(a b c d:V):=Q a (K qf) (Q9c G b c d)
def Q9d(G:Gt)(a b c:V):=N (lenK 0 a) fun d=>D (bin .gtr true true .int d (A 8000)) (Q23 G qf b c a) (N (lenK 1 b) fun e=>B (bin .gtr true true .int e (A 1000)) fun f=>Q23 G f b c a)
def Q9e(G:Gt)(a b:V):=C G Q96 [a] fun c=>Q9d G a c b
def Q9f(G:Gt)(a b:V):=C G Q2i [] fun c=>D (un .not c) (K qe) (Q9e G a b)
def Q1z(G:Gt)(a b:V):=Q9f G a b
def Qge:En:=⟨_,_,func3,by kernel_rfl,_,X14 (s:=Q1z) fun G a b m=>Xc (r:=v2 (Q1z G) 0 1) rfl rfl (ts (v2 (Q9f G) 0 1) (ts (v2 (Q9e G) 0 1) (ts (v3 (Q9d G) 0 5 1) (tr (tr (seqQ (f:=v3 (Q9c G) 5 1 0) (ts (v4 (Q9b G) 5 6 1 0) (tr (tr (seqQ (f:=v2 (Q5e G) 0 6) (ts (v4 (Q9a G) 6 12 10 11) (ts (v6 (Q5d G) 12 15 10 13 14 11) (tr (tr (seqQ (f:=v3 (Q99 G) 12 14 11) (ts (v1 (Q39 G) 4))) (seqQ (f:=v4 (Q50 G) 117 12 14 11))))))) (seqQ (f:=v5 (Q8s G) 7 5 6 1 0) (tr (Xj (X1r (fun i r m=>Q1 G i (r 7) (r 5) (r 6) (r 1) (r 0) m) (fun _ _=>rfl) (fun i0=>tr (seqQ (f:=v5 (Q30 G (Q1 G i0)) 5 7 6 1 0) (tr (tr (seqQ (f:=v5 (Q51 G (Q1 G i0)) 7 5 6 1 0)) (Xj (seqQ (f:=v6 (Q8r G (Q1 G i0)) 8 5 7 6 1 0) (tr (tr (seqQ (f:=v6 (Q53 G (Q1 G i0)) 6 5 7 8 1 0) (ts (v6 (Q8q G (Q1 G i0)) 8 5 7 6 1 0) (tr (tr (seqQ (f:=v5 (Q2y G (Q1 G i0)) 6 7 1 5 0)) (seqQ (f:=v6 (Q8p G (Q1 G i0)) 9 5 7 6 1 0) (tr (Xj (X1r (fun i r m=>Q11 G (Q1 G i0) i (r 9) (r 5) (r 7) (r 6) (r 1) (r 0) m) (fun _ _=>rfl) (fun i1=>tr (seqQ (f:=v6 (Q8o G (Q11 G (Q1 G i0) i1)) 6 5 7 9 1 0) (ts (v6 (Q52 G (Q11 G (Q1 G i0) i1)) 9 5 7 6 1 0)))))))))))) (Xj (X1r (fun i r m=>Q12 G (Q1 G i0) i (r 8) (r 5) (r 7) (r 6) (r 1) (r 0) m) (fun _ _=>rfl) (fun i1=>tr (tr seqD (seqQ (f:=v7 (Q2z G (Q12 G (Q1 G i0) i1) (Q1 G i0)) 49 8 5 7 6 1 0)))))))))))))))))))))) (seqQ (f:=v4 (Q23 G) 27 5 1 0))))))) m⟩
def Q1f(G:Gt)(a:V):=K a
def Qh4(G:Gt)(c d b a:V):=D (qg c (A 0)) (D (qg d (A 130)) (H 0 b fun e=>D (qg e (A 1)) (H 1 b fun f=>D (qg f (A 12)) (H 0 a fun g=>D (qd g (E [97])) (H 3 a fun h=>N (lenK 1 h) fun j=>D (qg j (A 1)) (H 3 a fun l=>Y 11 l (A 0) fun n=>H 3 n fun o=>D (qg o (A 24)) (H 3 a fun p=>Y 11 p (A 0) fun q=>H 8 q fun s=>D (qg s (A 0)) (H 3 a fun t=>Y 11 t (A 0) fun u=>H 9 u fun v=>B (qg v (A 10)) fun w=>Q1f G w) (Q1f G qe)) (Q1f G qe)) (Q1f G qe)) (Q1f G qe)) (Q1f G qe)) (Q1f G qe)) (Q1f G qe)) (Q1f G qe)
def Qh5(G:Gt)(c d:V):=C G Q97 [(E [104,111,115,116,110,97,109,101,32,97,32,98])] fun a=>U a 0 fun e=>U a 1 fun f=>U a 2 fun g=>S Q17 Qi fun h=>S Q8 Q3 fun b=>T 12 h e (T 2 b f (Qh4 G c g b d))
def Qh6(G:Gt):=C G Q97 [(E [104,111,115,116,110,97,109,101,32,97,10,105,110,116,101,114,102,97,99,101,32,101,48,10,32,97,100,100,114,101,115,115,32,49,48,46,48,46,48,46,49,32,50,53,53,46,50,53,53,46,50,53,53,46,48,10,32,111,115,112,102,32,97,114,101,97,32,48,10])] fun a=>U a 0 fun c=>U a 1 fun d=>U a 2 fun e=>S Q17 Qi fun b=>S Q8 Q3 fun f=>T 12 b c (T 2 f d (Qh5 G e b))
def Qf7(G:Gt):=Qh6 G
def Qn8:En:=⟨_,_,func4,by kernel_rfl,_,Xxm (s:=(fun G=>Qf7 G)) fun G m=>Xc (r:=v0 (Qf7 G)) rfl rfl (ts (v0 (Qh6 G)) (ts (v2 (Qh5 G) 3 1) (ts (v4 (Qh4 G) 3 6 5 1) (ts (v1 (Q1f G) 0))))) m⟩
def Qf8(G:Gt)(a:V):=K a
def Q7o(G:Gt)(k0:J4)(a b c d:V):=B (X a (A 1)) fun e=>k0 e b c d
def Q7p(G:Gt)(k0:J4)(e c b d a:V):=Q e (B (Xw b (some d) (some a)) fun f=>qp Q4 [(E [])] 1 16 c f fun g=>B (X a (A 1)) fun h=>Q7o G k0 a b g h) (Q7o G k0 a b c d)
def Qah(G:Gt)(k0:J4)(a b c d:V):=N (lenK 0 b) fun e=>D (bin .eql false true .int a e) (Q7p G k0 qf c b d a) (B (Xe b a) fun f=>B (qg f (.int .u8 10)) fun g=>Q7p G k0 g c b d a)
def Q1q(G:Gt):Nat→V→V→V→V→M→R
 | 0,_,_,_,_,_=>none
 | i + 1,a,b,c,d,m=>(N (lenK 0 b) fun e=>D (bin .leq false true .int a e) (Qah G (Q1q G i) a b c d) (Qf8 G c)) m
def Qf9(G:Gt)(a b c d:V):=Q1q G G.rds a b c d
def Qfa(G:Gt)(a b c:V):=Qf9 G (A 0) a b c
def Qfb(G:Gt)(a b:V):=Qfa G a b (A 0)
def Qfc(G:Gt)(a:V):=Qfb G a (.slice none 0 0)
def Q4s(G:Gt)(a:V):=Qfc G a
def Qka:En:=⟨_,_,func5,by kernel_rfl,_,X19 (s:=Q4s) fun G a m=>Xc (r:=v1 (Q4s G) 0) rfl rfl (ts (v1 (Qfc G) 0) (ts (v2 (Qfb G) 0 3) (ts (v3 (Qfa G) 0 3 4) (tr (tr (seqQ (f:=v1 (Qf8 G) 3)) (seqQ (f:=v4 (Qf9 G) 5 0 3 4) (tr (Xj (X1r (fun i r m=>Q1q G i (r 5) (r 0) (r 3) (r 4) m) (fun _ _=>rfl) (fun i0=>tr (seqQ (f:=v4 (Qah G (Q1q G i0)) 5 0 3 4) (tr (tr (seqQ (f:=v4 (Q7o G (Q1q G i0)) 5 0 3 4)) (Xj (seqQ (f:=v5 (Q7p G (Q1q G i0)) 21 3 0 4 5)))))))))))))))) m⟩
end
end Go.Ab.Sh

set_option maxRecDepth 100000
namespace Go.Ab.Sh
open Go Go.Ab Go.Proofs Go.Proofs.Tryz
noncomputable section
def Qdq(G:Gt)(c a b:V):=qr 0 c fun d=>qc true 12 d fun e=>B (Xg Q3 [(0,1),(1,1)] []) fun f=>T 12 a e (qq (Xd 2 b f) fun _=>fun m=>ob (ob (X8 true 12 a m) fun v=>ob (ob (X8 true 2 b m) fun v=>ob (some [(A 0)]) fun l=>some (v :: l)) fun l=>some (v :: l)) fun l=>some (X1i l,m))
def Q6u(G:Gt):Nat→V→V→V→V→V→V→M→R
 | 0,_,_,_,_,_,_,_=>none
 | i + 1,a,b,c,d,e,f,m=>(D (qh a b) (Y 3 c a fun h=>qc true 3 h fun j=>S Q5y Q93 fun g=>T 3 g j (H 1 g fun l=>C G Q2x [l,(.func (.func Qdp) #[] #[])] fun o=>B (X a (A 1)) fun n=>(Q6u G i) n b c d e f)) (Qdq G d e f)) m
def Qjf(G:Gt)(a b c d e f:V):=Q6u G G.rds a b c d e f
def Qjg(G:Gt)(a c d:V):=qr 0 a fun e=>H 9 e fun b=>N (lenK 1 b) fun f=>Qjf G (A 0) f b a c d
def Qau(G:Gt)(c a b:V):=qr 0 c fun d=>H 0 d fun e=>D (qd e (E [])) (B (Xg Qi [(0,1),(1,1),(2,1),(3,1),(4,1),(5,1),(6,1),(7,1),(8,1),(9,1),(10,1),(11,1)] []) fun f=>B (Xg Q3 [(0,1),(1,1)] []) fun g=>T 12 a f (qq (Xd 2 b g) fun _=>fun m=>ob (ob (X8 true 12 a m) fun v=>ob (ob (X8 true 2 b m) fun v=>ob (some [(A 5)]) fun l=>some (v :: l)) fun l=>some (v :: l)) fun l=>some (X1i l,m))) (Qjg G c a b)
def Q1w(G:Gt)(k0:J6)(a b c h j n o:V):=qa 4 a fun p=>D (bin .neq true true .int p (A 0)) (B (Xg Qi [(0,1),(1,1),(2,1),(3,1),(4,1),(5,1),(6,1),(7,1),(8,1),(9,1),(10,1),(11,1)] []) fun q=>qr 2 a fun f=>qc true 2 f fun g=>qr 4 a fun d=>P d fun e=>T 12 b q (qi (L true 2 f g (L false 1 d e qj)) (T 2 c g (qi (L false 1 d e qj) (fun m=>ob (ob (X8 true 12 b m) fun v=>ob (ob (X8 true 2 c m) fun v=>ob (some [e]) fun l=>some (v :: l)) fun l=>some (v :: l)) fun l=>some (X1i l,m)))))) (B (X h (A 1)) fun s=>k0 s j n o b c)
def Qca(G:Gt)(k0:J6)(a b h c d e f g:V):=qa 15 a fun j=>Q j (qc true 2 h fun l=>C G Q10 [b,l,(A 7)] fun p=>Q1w G k0 b c d e f g a) (qa 16 a fun n=>Q n (qc true 2 h fun o=>C G Q10 [b,o,(A 120)] fun q=>Q1w G k0 b c d e f g a) (Q1w G k0 b c d e f g a))
def Q7q(G:Gt)(k0:J6)(a b c d e f g h:V):=C G Q1k [a] fun j=>Q j (qa 0 a fun l=>qa 1 a fun n=>Y 3 l n fun o=>qz true 2 1 o fun p=>C G Q10 [a,p,(A 130)] fun q=>Qca G k0 b a c d e f g h) (Qca G k0 b a c d e f g h)
def Q9s(G:Gt)(k0:J6)(j b a c d e f g h:V):=Q j (qa 12 b fun l=>F (X52 G.tab l [a]) fun o=>Q7q G k0 a b c d e f g h) (qc true 2 c fun n=>C G Q10 [a,n,(A 70)] fun p=>Q7q G k0 a b c d e f g h)
def Qie(G:Gt)(k0:J6)(j a b c d e f g h l:V):=Q j (Z 12 a .nilFunc (C G Q98 [a,b] fun q=>Q7q G k0 b a c d e f g h)) (H 0 l fun n=>D (qg n (A 1)) (qa 12 a fun o=>B (bin .neq true true .func o .nilFunc) fun p=>Q9s G k0 p a b c d e f g h) (Q9s G k0 qe a b c d e f g h))
def Qif(G:Gt)(k0:J6)(a b c d e f g h j:V):=H 0 a fun l=>B (qg l (A 0)) fun n=>Qie G k0 n b c d e f g h j a
def Qig(G:Gt)(k0:J6)(a c d e f g h j:V):=H 1 a fun l=>Y 3 l (A 0) fun n=>qz true 2 1 n fun o=>S Q8 Q3 fun b=>T 2 b o (Qif G k0 a c d b e f g h j)
def Qgf(G:Gt)(k0:J6)(a b c d e f g:V):=H 1 a fun h=>B (Xg Qks [(0,1),(1,1),(2,2),(4,1)] [(0,h)]) fun j=>S Qkr (Value.cells j).toList fun l=>Qig G k0 a b l c d e f g
def Qih(G:Gt)(k0:J6)(a b d e f g:V):=Y 2 a b fun h=>qc true 2 h fun j=>S Q45 Q8x fun c=>T 2 c j (Qgf G k0 c d e f b g a)
def Qgg(G:Gt)(k0:J6)(d e f a b c g:V):=Q d (Qih G k0 e f a b c g) (Qau G a b c)
def Qj(G:Gt):Nat→V→V→V→V→V→V→M→R
 | 0,_,_,_,_,_,_,_=>none
 | i + 1,a,b,c,d,e,f,m=>(B (qh a b) fun g=>Qgg G (Qj G i) g c a d e f b) m
def Qjh(G:Gt)(a b c d e f:V):=Qj G G.rds a b c d e f
def Qji(G:Gt)(a b c d:V):=N (lenK 1 a) fun e=>Qjh G (A 0) e a b c d
def Qjj(G:Gt)(a b c:V):=B (Xg Qi [(0,1),(1,1),(2,1),(3,1),(4,1),(5,1),(6,1),(7,1),(8,1),(9,1),(10,1),(11,1)] [(1,(.int .u8 1))]) fun d=>zb X7e fun e=>B (Xg Qnd [(0,12),(12,1),(13,1),(14,1),(15,1),(16,1),(17,1)] [(0,d),(3,e)]) fun f=>S Qkq (Value.cells f).toList fun g=>Qji G a g b c
def Qgt(G:Gt)(c d a b f:V):=D (bin .neq true true .int c (A 0)) (B (Xg Qi [(0,1),(1,1),(2,1),(3,1),(4,1),(5,1),(6,1),(7,1),(8,1),(9,1),(10,1),(11,1)] []) fun g=>qc true 2 d fun e=>T 12 a g (qi (L true 2 d e qj) (qq (Xd 2 b e) fun _=>fun m=>ob (ob (X8 true 12 a m) fun v=>ob (ob (X8 true 2 b m) fun v=>ob (some [c]) fun l=>some (v :: l)) fun l=>some (v :: l)) fun l=>some (X1i l,m)))) (Qjj G f a b)
def Qjk(G:Gt)(c d e:V):=C G Qcs [c] fun a=>U a 0 fun f=>U a 1 fun g=>U a 2 fun h=>S Q8 Q3 fun b=>T 2 b g (Qgt G h b d e f)
def Qb8(G:Gt)(a:V):=S Q17 Qi fun b=>S Q8 Q3 fun c=>Qjk G a b c
def Qol:En:=⟨_,_,func6,by kernel_rfl,_,X19 (s:=Qb8) fun G a m=>Xc (r:=v1 (Qb8 G) 0) rfl rfl (ts (v3 (Qjk G) 0 2 3) (ts (v5 (Qgt G) 7 6 2 3 5) (ts (v3 (Qjj G) 5 2 3) (ts (v4 (Qji G) 5 8 2 3) (tr (tr (seqQ (f:=v3 (Qau G) 8 2 3) (ts (v3 (Qjg G) 8 2 3) (tr (tr (seqQ (f:=v3 (Qdq G) 8 2 3)) (seqQ (f:=v6 (Qjf G) 135 134 133 8 2 3) (tr (Xj (X1r (fun i r m=>Q6u G i (r 135) (r 134) (r 133) (r 8) (r 2) (r 3) m) (fun _ _=>rfl) (fun i0=>fun r m=>by kernel_rfl))))))))) (seqQ (f:=v6 (Qjh G) 32 31 30 8 2 3) (tr (Xj (X1r (fun i r m=>Qj G i (r 32) (r 31) (r 30) (r 8) (r 2) (r 3) m) (fun _ _=>rfl) (fun i0=>tr (seqQ (f:=v7 (Qgg G (Qj G i0)) 33 30 32 8 2 3 31) (ts (v6 (Qih G (Qj G i0)) 30 32 8 2 3 31) (tr (tr seqD (Xj (seqQ (f:=v7 (Qgf G (Qj G i0)) 10 8 2 3 32 31 30) (ts (v8 (Qig G (Qj G i0)) 10 8 11 2 3 32 31 30) (ts (v9 (Qif G (Qj G i0)) 10 8 11 12 2 3 32 31 30) (tr (tr (seqQ (f:=v8 (Q7q G (Qj G i0)) 11 8 12 2 3 32 31 30) (ts (v8 (Qca G (Qj G i0)) 8 11 12 2 3 32 31 30) (ts (v7 (Q1w G (Qj G i0)) 11 2 3 32 31 30 8)))) (Xj (seqQ (f:=v10 (Qie G (Qj G i0)) 48 8 11 12 2 3 32 31 30 10) (tr (X40 (refQ) (seqQ (f:=v9 (Q9s G (Qj G i0)) 58 8 11 12 2 3 32 31 30))))))))))))))))))))))))))) m⟩
end
end Go.Ab.Sh

set_option maxRecDepth 100000
namespace Go.Ab.Sh
open Go Go.Ab Go.Proofs Go.Proofs.Tryz
noncomputable section
def Q6v(G:Gt)(b a:V)(m:M):R:=bp (conv .str b m) fun c m=>bp (pur (X8 true 12 a m) m) fun g m=>bp (pur (X8 true 12 a m) m) fun f m=>bp (pur (X8 true 12 a m) m) fun e m=>bp (pur (X8 true 12 a m) m) fun d m=>bp (G.tab Q7k [g] m) fun h m=>ckB (again (conv .str b m) c && (again (pur (X8 true 12 a m) m) f && (again (pur (X8 true 12 a m) m) e && (again (pur (X8 true 12 a m) m) d && true)))) (bp (pur (bin .add false true .str c h) m) fun j m=>bp (G.tab Q5c [f] m) fun l m=>ckB (again (conv .str b m) c && (again (pur (X8 true 12 a m) m) e && (again (pur (X8 true 12 a m) m) d && true))) (bp (pur (bin .add false true .str j l) m) fun n m=>bp (G.tab Q88 [e] m) fun o m=>ckB (again (conv .str b m) c && (again (pur (X8 true 12 a m) m) d && true)) (bp (pur (bin .add false true .str n o) m) fun p m=>bp (G.tab Q8w [d] m) fun q m=>ckB (again (conv .str b m) c && true) (bp (pur (bin .add false true .str p q) m) fun s m=>some (s,m)))))
def Q9t(G:Gt):Nat→V→V→V→M→R
 | 0,_,_,_,_=>none
 | i + 1,c,b,d,m=>(H 6 b fun u=>N (lenK 1 u) fun v=>D (qh c v) (H 6 b fun w=>Y 7 w c fun x=>qc true 7 x fun y=>S Qi5 Qdd fun a=>T 7 a y (O 1 a fun z=>O 0 z fun e=>P e fun f=>F (conv (.int .i64) f) fun I=>O 1 a fun W=>O 1 W fun g=>P g fun h=>O 3 a fun j=>P j fun l=>F (conv (.int .i64) l) fun xa=>H 4 a fun xb=>O 5 a fun n=>P n fun o=>O 6 a fun p=>P p fun q=>O 0 a fun s=>P s fun t=>F (qw t) fun xc=>C G Q14 [xb] fun xd=>qi (L false 1 e f (L false 1 g h (L false 1 j l (L false 1 n o (L false 1 p q (L false 1 s t qj)))))) (F (X5 Qm [(A 0)] 1 6 [(0,I),(1,h),(2,xa),(3,xd),(4,o),(5,q)]) fun xe=>C G Q0 [xe,xc] fun xf=>F (X13 Q1u 1 1 d xf) fun xg=>B (X c (A 1)) fun xh=>(Q9t G i) xh b xg))) (Q6v G d b)) m
def Qdr(G:Gt)(a b c:V):=Q9t G G.rds a b c
def Q6w(G:Gt)(a b:V):=Qdr G (A 0) a b
def Q9u(G:Gt):Nat→V→V→V→M→R
 | 0,_,_,_,_=>none
 | i + 1,b,a,c,m=>(H 5 a fun o=>N (lenK 1 o) fun p=>D (qh b p) (H 5 a fun q=>Y 3 q b fun s=>H 0 s fun t=>O 5 a fun d=>P d fun e=>Y 3 e b fun u=>O 2 u fun f=>P f fun g=>F (conv (.int .i64) g) fun v=>O 5 a fun h=>P h fun j=>Y 3 j b fun w=>O 1 w fun l=>P l fun n=>F (qw n) fun x=>C G Q14 [t] fun y=>qi (L false 1 d e (L false 1 f g (L false 1 h j (L false 1 l n qj)))) (F (X5 Qm [(A 0)] 1 2 [(0,y),(1,v)]) fun z=>C G Q0 [z,x] fun I=>F (X13 Q1u 1 1 c I) fun W=>B (X b (A 1)) fun xa=>(Q9u G i) xa a W)) (Q6w G a c)) m
def Qds(G:Gt)(a b c:V):=Q9u G G.rds a b c
def Q6x(G:Gt)(a b:V):=Qds G (A 0) a b
def Q68(G:Gt)(k0:J3)(a b c:V):=B (X a (A 1)) fun d=>k0 d b c
def Q8z(G:Gt)(k0:J3):Nat→V→V→V→V→V→M→R
 | 0,_,_,_,_,_,_=>none
 | i + 1,b,c,d,e,f,m=>(H 1 c fun xa=>N (lenK 1 xa) fun xb=>D (qh b xb) (H 1 c fun xc=>Y 10 xc b fun xd=>qc true 10 xd fun xe=>S Qlc Qgr fun a=>T 10 a xe (H 0 a fun xf=>O 1 a fun g=>P g fun h=>O 2 a fun xg=>O 0 xg fun j=>P j fun l=>F (conv (.int .i64) l) fun xh=>O 2 a fun xj=>O 1 xj fun n=>P n fun o=>O 4 a fun xl=>O 0 xl fun p=>P p fun q=>F (conv (.int .i64) q) fun xn=>O 4 a fun xo=>O 1 xo fun s=>P s fun t=>O 6 a fun xp=>O 0 xp fun u=>P u fun v=>F (conv (.int .i64) v) fun xq=>O 6 a fun xs=>O 1 xs fun w=>P w fun x=>F (conv (.int .i64) x) fun xt=>O 8 a fun xu=>O 0 xu fun y=>P y fun z=>F (conv (.int .i64) z) fun xv=>O 8 a fun xw=>O 1 xw fun I=>P I fun W=>F (conv (.int .i64) W) fun xx=>C G Q14 [xf] fun xy=>qi (L false 1 g h (L false 1 j l (L false 1 n o (L false 1 p q (L false 1 s t (L false 1 u v (L false 1 w x (L false 1 y z (L false 1 I W qj))))))))) (F (X5 Qm [(A 0)] 1 10 [(0,xy),(1,h),(2,xh),(3,o),(4,xn),(5,t),(6,xq),(7,xt),(8,xv),(9,xx)]) fun xz=>C G Q0 [xz,(.slice none 0 0)] fun xI=>F (X13 Q1u 1 1 d xI) fun xW=>B (X b (A 1)) fun ya=>(Q8z G k0 i) ya c xW e f))) (Q68 G k0 e f d)) m
def Qct(G:Gt)(k0:J3)(a b c d e:V):=Q8z G k0 G.rds a b c d e
def Qcu(G:Gt)(k0:J3)(a b c d:V):=Qct G k0 (A 0) a b c d
def Qcv(G:Gt)(k0:J3)(b a c d:V):=H 1 a fun e=>N (lenK 1 e) fun f=>F (X5 Qm [(A 0)] 1 1 [(0,f)]) fun g=>H 0 a fun h=>F (qw h) fun j=>C G Q0 [g,j] fun l=>F (X13 Q1u 1 1 b l) fun n=>Qcu G k0 a n c d
def Qcw(G:Gt)(k0:J3)(a b d:V):=H 4 a fun e=>Y 2 e b fun f=>qc true 2 f fun g=>S Qlj Qgi fun c=>T 2 c g (Qcv G k0 d c b a)
def Q18(G:Gt):Nat→V→V→V→M→R
 | 0,_,_,_,_=>none
 | i + 1,b,a,c,m=>(H 4 a fun d=>N (lenK 1 d) fun e=>D (qh b e) (Qcw G (Q18 G i) a b c) (Q6x G a c)) m
def Qcx(G:Gt)(a b c:V):=Q18 G G.rds a b c
def Q6y(G:Gt)(a b:V):=Qcx G (A 0) a b
def Q90(G:Gt):Nat→V→V→V→M→R
 | 0,_,_,_,_=>none
 | i + 1,c,b,z,m=>(H 3 b fun xa=>N (lenK 1 xa) fun xb=>D (qh c xb) (H 3 b fun xc=>Y 11 xc c fun xd=>qc true 11 xd fun xe=>S Qma Qh3 fun a=>T 11 a xe (O 2 a fun d=>P d fun e=>F (conv (.int .i64) e) fun xf=>O 3 a fun f=>P f fun g=>H 4 a fun xg=>O 7 a fun h=>P h fun j=>F (conv (.int .i64) j) fun xh=>O 8 a fun l=>P l fun n=>O 9 a fun o=>P o fun p=>O 10 a fun I=>P I fun W=>O 0 a fun q=>P q fun s=>O 1 a fun t=>P t fun u=>O 5 a fun v=>P v fun w=>O 6 a fun x=>P x fun y=>F (za s u w y) fun xj=>C G Q14 [xg] fun xl=>qi (L false 1 d e (L false 1 f g (L false 1 h j (L false 1 l n (L false 1 o p (L false 1 I W (L false 1 q s (L false 1 t u (L false 1 v w (L false 1 x y qj)))))))))) (C G Q14 [W] fun xn=>qi (L false 1 d e (L false 1 f g (L false 1 h j (L false 1 l n (L false 1 o p (L false 1 q s (L false 1 t u (L false 1 v w (L false 1 x y qj))))))))) (F (X5 Qm [(A 0)] 1 7 [(0,xf),(1,g),(2,xl),(3,xh),(4,n),(5,p),(6,xn)]) fun xo=>C G Q0 [xo,xj] fun xp=>F (X13 Q1u 1 1 z xp) fun xq=>B (X c (A 1)) fun xs=>(Q90 G i) xs b xq)))) (Q6y G b z)) m
def Qcy(G:Gt)(a b c:V):=Q90 G G.rds a b c
def Qdt(G:Gt)(a b:V):=Qcy G (A 0) a b
def Qdu(G:Gt)(a:V):=O 1 a fun b=>P b fun c=>F (conv (.int .i64) c) fun W=>O 2 a fun d=>P d fun e=>N (lenK 1 e) fun xa=>O 3 a fun f=>P f fun g=>N (lenK 1 g) fun xb=>O 4 a fun h=>P h fun j=>N (lenK 1 j) fun xc=>O 5 a fun l=>P l fun n=>N (lenK 1 n) fun xd=>O 6 a fun o=>P o fun p=>N (lenK 1 p) fun xe=>O 7 a fun q=>P q fun s=>N (lenK 1 s) fun xf=>O 8 a fun t=>P t fun u=>N (lenK 1 u) fun xg=>O 9 a fun v=>P v fun w=>N (lenK 1 w) fun xh=>O 10 a fun x=>P x fun y=>N (lenK 1 y) fun xj=>O 11 a fun z=>P z fun I=>N (lenK 1 I) fun xl=>F (X5 Qm [(A 0)] 1 11 [(0,W),(1,xa),(2,xb),(3,xc),(4,xd),(5,xe),(6,xf),(7,xg),(8,xh),(9,xj),(10,xl)]) fun xn=>H 0 a fun xo=>F (qw xo) fun xp=>H 2 a fun xq=>F (apS Q4 1 16 xp xq) fun xs=>qi (L false 1 b c (L false 1 d e (L false 1 f g (L false 1 h j (L false 1 l n (L false 1 o p (L false 1 q s (L false 1 t u (L false 1 v w (L false 1 x y (L false 1 z I qj))))))))))) (C G Q0 [xn,xs] fun xt=>F (conv .bytes xt) fun xu=>Qdt G a xu)
def Q5q(G:Gt)(a:V):=S Q17 (Value.cells a).toList fun b=>Qdu G b
def Qj2:En:=⟨_,_,func7,by kernel_rfl,_,X19 (s:=Q5q) fun G a m=>Xc (r:=v1 (Q5q G) 0) rfl rfl (ts (v1 (Qdu G) 1) (ts (v2 (Qdt G) 1 3) (tr (tr (seqQ (f:=v2 (Q6y G) 1 3) (tr (tr (seqQ (f:=v2 (Q6x G) 1 3) (tr (tr (seqQ (f:=v2 (Q6w G) 1 3) (tr (tr (seqQ (f:=v2 (Q6v G) 3 1)) (seqQ (f:=v3 (Qdr G) 11 1 3) (tr (Xj (X1r (fun i r m=>Q9t G i (r 11) (r 1) (r 3) m) (fun _ _=>rfl) (fun i0=>fun r m=>by kernel_rfl)))))))) (seqQ (f:=v3 (Qds G) 10 1 3) (tr (Xj (X1r (fun i r m=>Q9u G i (r 10) (r 1) (r 3) m) (fun _ _=>rfl) (fun i0=>fun r m=>by kernel_rfl)))))))) (seqQ (f:=v3 (Qcx G) 6 1 3) (tr (Xj (X1r (fun i r m=>Q18 G i (r 6) (r 1) (r 3) m) (fun _ _=>rfl) (fun i0=>tr (seqQ (f:=v3 (Qcw G (Q18 G i0)) 1 6 3) (tr (tr (seqQ (f:=v3 (Q68 G (Q18 G i0)) 6 1 3)) (Xj (seqQ (f:=v4 (Qcv G (Q18 G i0)) 3 7 6 1) (ts (v4 (Qcu G (Q18 G i0)) 7 3 6 1) (ts (v5 (Qct G (Q18 G i0)) 8 7 3 6 1) (tr (Xj (X1r (fun i r m=>Q8z G (Q18 G i0) i (r 8) (r 7) (r 3) (r 6) (r 1) m) (fun _ _=>rfl) (fun i1=>fun r m=>by kernel_rfl))))))))))))))))))) (seqQ (f:=v3 (Qcy G) 4 1 3) (tr (Xj (X1r (fun i r m=>Q90 G i (r 4) (r 1) (r 3) m) (fun _ _=>rfl) (fun i0=>fun r m=>by kernel_rfl))))))))) m⟩
end
end Go.Ab.Sh

set_option maxRecDepth 100000
namespace Go.Ab.Sh
open Go Go.Ab Go.Proofs Go.Proofs.Tryz
noncomputable section
def Qc0(G:Gt)(b a:V):=B (Xg Q3 [(0,1),(1,1)] []) fun c=>qq (Xd 2 a c) fun _=>fun m=>ob (ob (ob (X8 true 2 a m) fun v=>ob (some [(A 0)]) fun l=>some (v :: l)) fun l=>some (b :: l)) fun l=>some (X1i l,m)
def Qc1(G:Gt)(k0:J5)(a b c d e:V):=B (X a (A 1)) fun f=>k0 f b c d e
def Qgu(G:Gt)(k0:J5)(a b c d e f:V):=qc true 2 b fun g=>qp Q45 Q8x 2 32 a g fun h=>Qc1 G k0 c d e h f
def Qdv(G:Gt)(k0:J5):Nat→V→V→V→V→V→V→V→V→V→M→R
 | 0,_,_,_,_,_,_,_,_,_,_=>none
 | i + 1,b,d,a,e,f,g,h,j,l,m=>(D (bin .neq true true .str b (E [])) (N (lenK 0 d) fun n=>N (lenK 0 b) fun o=>B (bin .sub false true .int n o) fun p=>B (X p (A 1)) fun q=>C G Q4w [b,(E [32])] fun c=>U c 0 fun s=>U c 1 fun t=>U c 2 fun I=>H 1 a fun u=>B (X e (A 1)) fun v=>B (Xg Q3 [(0,1),(1,1)] [(0,v),(1,q)]) fun w=>B (Xg Qf6 [(0,1),(1,2)] [(0,s),(1,w)]) fun x=>qp Qag Qf6 3 32 u x fun y=>qk 1 a y (C G Q4r [t,(E [32])] fun z=>(Qdv G k0 i) z d a e f g h j l)) (Qgu G k0 f a g h j l)) m
def Qjl(G:Gt)(k0:J5)(a b c d e f g h j:V):=Qdv G k0 G.rds a b c d e f g h j
def Qjm(G:Gt)(k0:J5)(a b d e f g h j:V):=N (lenK 0 a) fun l=>N (lenK 0 b) fun n=>B (bin .sub false true .int l n) fun o=>B (Xg Q8x [(0,1),(1,1)] [(0,o)]) fun p=>S Q45 Q8x fun c=>T 2 c p (Qjl G k0 b a c d e f g h j)
def Qdw(G:Gt)(k0:J5)(f a b c d e g h j:V):=Q f (Qc1 G k0 a b c d e) (Qjm G k0 g h j d a b c e)
def Qjn(G:Gt)(k0:J5)(a b c d e f g h:V):=D (qd a (E [])) (Qdw G k0 qf b c d e f g a h) (B (Xe a (A 0)) fun j=>B (qg j (.int .u8 33)) fun l=>Qdw G k0 l b c d e f g a h)
def Qkt(G:Gt)(k0:J5)(a b c d e f g:V):=C G Q4r [a,(E [32])] fun h=>Qjn G k0 h b c d e f a g
def Qku(G:Gt)(k0:J5)(a b c d e:V):=qx 1 b a fun f=>Qkt G k0 f a c b d e a
def Qho(G:Gt)(k0:J5)(c d e f a b:V):=Q c (Qku G k0 d e f a b) (Qc0 G a b)
def Q1b(G:Gt):Nat→V→V→V→V→V→M→R
 | 0,_,_,_,_,_,_=>none
 | i + 1,a,b,c,d,e,m=>(B (qh a b) fun f=>Qho G (Q1b G i) f a c b d e) m
def Qkv(G:Gt)(a b c d e:V):=Q1b G G.rds a b c d e
def Qkw(G:Gt)(b c d:V):=C G Q7l [b,(E [10])] fun a=>N (lenK 1 a) fun e=>Qkv G (A 0) e a c d
def Qkx(G:Gt)(a b:V):=Qkw G a (.slice none 0 0) b
def Qhp(G:Gt)(b a:V):=C G Qg2 [b] fun c=>U c 0 fun f=>U c 1 fun d=>S Q8 Q3 fun e=>T 2 e f (D (bin .neq true true .int d (A 0)) (qc true 2 e fun g=>qq (Xd 2 a g) fun _=>fun m=>ob (ob (ob (X8 true 2 a m) fun v=>ob (some [d]) fun l=>some (v :: l)) fun l=>some ((.slice none 0 0) :: l)) fun l=>some (X1i l,m)) (Qkx G b a))
def Qat(G:Gt)(a:V):=S Q8 Q3 fun b=>Qhp G a b
def Qp7:En:=⟨_,_,func8,by kernel_rfl,_,X19 (s:=Qat) fun G a m=>Xc (r:=v1 (Qat G) 0) rfl rfl (ts (v2 (Qhp G) 0 3) (ts (v2 (Qkx G) 0 3) (ts (v3 (Qkw G) 0 7 3) (tr (tr (seqQ (f:=v2 (Qc0 G) 7 3)) (seqQ (f:=v5 (Qkv G) 28 27 26 7 3) (tr (Xj (X1r (fun i r m=>Q1b G i (r 28) (r 27) (r 26) (r 7) (r 3) m) (fun _ _=>rfl) (fun i0=>tr (seqQ (f:=v6 (Qho G (Q1b G i0)) 29 28 26 27 7 3) (ts (v5 (Qku G (Q1b G i0)) 28 26 27 7 3) (tr (tr (seqQ (f:=v5 (Qc1 G (Q1b G i0)) 28 27 26 7 3)) (Xj (seqQ (f:=v7 (Qkt G (Q1b G i0)) 9 28 27 26 7 3 8) (ts (v8 (Qjn G (Q1b G i0)) 10 28 27 26 7 3 9 8) (tr (tr (seqQ (f:=v8 (Qjm G (Q1b G i0)) 9 10 8 7 28 27 26 3) (ts (v9 (Qjl G (Q1b G i0)) 10 9 11 8 7 28 27 26 3) (tr (tr (seqQ (f:=v6 (Qgu G (Q1b G i0)) 7 11 28 27 26 3)) (Xj (X1r (fun i r m=>Qdv G (Q1b G i0) i (r 10) (r 9) (r 11) (r 8) (r 7) (r 28) (r 27) (r 26) (r 3) m) (fun _ _=>rfl) (fun i1=>fun r m=>by kernel_rfl))))))) (seqQ (f:=v9 (Qdw G (Q1b G i0)) 41 28 27 26 7 3 9 10 8))))))))))))))))))))) m⟩
def Q6z(G:Gt)(b a:V):=qr 0 b fun d=>C G Qe [a] fun c=>D (qd c (E [104,111,115,116,110,97,109,101])) (C G Qd [a] fun g=>Z 0 d g (F (qw (E [104,111,115,116,110,97,109,101])) fun h=>qo G Q2w [b,h])) (D (qd c (E [118,114,102])) (C G Qd [a] fun e=>F (qt (E [118,114,102]) e) fun j=>C G Q2w [b,j] fun z=>qa 2 d fun l=>qp Q4 [(E [])] 1 16 l e fun n=>Z 2 d n (qv)) (D (qd c (E [105,110,116,101,114,102,97,99,101])) (C G Qd [a] fun f=>F (qt (E [105,110,116,101,114,102,97,99,101]) f) fun o=>C G Q27 [b,(.func (.func Q7c) ⟨[b]⟩ ⟨[]⟩),o] fun I=>qa 3 d fun p=>B (Xg Qh3 [(0,1),(1,1),(2,1),(3,1),(4,1),(5,1),(6,1),(7,1),(8,1),(9,1),(10,1)] [(0,f),(8,(A (-1))),(9,(A 10))]) fun q=>qp Qma Qh3 11 120 p q fun s=>Z 3 d s (qv)) (D (qd c (E [105,112])) (qo G Qdb [b,a]) (D (qd c (E [114,111,117,116,101,45,109,97,112])) (C G Qd [a] fun t=>F (X5 Q1u [(.int .u8 0)] 1 3 [(0,(.int .u8 1)),(1,(.int .u8 0)),(2,(.int .u8 2))]) fun u=>F (qy (E [112,101,114,109,105,116]) (E [100,101,110,121]) (E [110,101,120,116])) fun v=>C G Qy [a,v] fun w=>qx 1 u w fun x=>C G Q2 [a,(A 1),(A 65535)] fun y=>qo G Q9m [b,t,x,y]) (D (qd c (E [114,111,117,116,101,114])) (qo G Q9n [b,a]) (qo G Q5 [a,(A 130)]))))))
def Qkb:En:=⟨_,_,func9,by kernel_rfl,_,X14 (s:=Q6z) fun G a b m=>Xc (r:=v2 (Q6z G) 0 1) rfl rfl (fun r m=>by kernel_rfl) m⟩
def Q42(G:Gt)(b a c:V):=S Q8 (Value.cells b).toList fun d=>qa 4 a fun e=>D (qg e (A 0)) (qc true 2 d fun f=>qr 2 a fun g=>T 2 g f (Z 4 a c (qv))) (qv)
def Qj3:En:=⟨_,_,func10,by kernel_rfl,_,Xeh (s:=(fun G a b c=>Q42 G b a c)) fun G a b c m=>Xc (r:=v3 (Q42 G) 1 0 2) rfl rfl (fun r m=>by kernel_rfl) m⟩
def Q9v(G:Gt)(a:V):=K a
def Qdx(G:Gt)(a:V)(m:M):R:=bp (pur (X21 a) m) fun b m=>bp (pur (Xx 4 b) m) fun c m=>bp (pur (X8 false 1 c m) m) fun d m=>bp (pur (bin .eql true true .int d (.int .i64 0)) m) fun e m=>brt e (bp (pur (X21 a) m) fun f m=>bp (pur (Xx 1 f) m) fun g m=>bp (pur (X8 false 1 g m) m) fun h m=>bp (pur (X21 a) m) fun j m=>bp (pur (Xx 0 j) m) fun l m=>bp (pur (X8 false 1 l m) m) fun n m=>bp (pur (lenK 1 n m) m) fun o m=>bp (pur (bin .lss false true .int h o) m) fun p m=>Q9v G p m) (Q9v G (.bool false) m) (none)
def Q5r(G:Gt)(a:V):=Qdx G a
def Qj4:En:=⟨_,_,func11,by kernel_rfl,_,X19 (s:=Q5r) fun G a m=>Xc (r:=v1 (Q5r G) 0) rfl rfl (ts (v1 (Qdx G) 0) (ts (v1 (Q9v G) 2))) m⟩
def Qdy(G:Gt)(a:V):=B (bin .add true true .str a (E [41])) fun b=>K b
def Q4i(G:Gt):Nat→V→V→V→M→R
 | 0,_,_,_,_=>none
 | i + 1,a,b,c,m=>(N (lenK 1 b) fun f=>D (qh a f) (qx 1 b a fun g=>N (lenK 0 g) fun h=>Y 1 b a fun d=>P d fun e=>C G Q6k [h] fun j=>qi (L false 1 d e qj) (B (bin .add false true .str c j) fun l=>B (bin .add true true .str l (E [58])) fun n=>B (bin .add false true .str n e) fun o=>B (X a (A 1)) fun p=>(Q4i G i) p b o)) (Qdy G c)) m
def Qdz(G:Gt)(a b c:V):=Q4i G G.rds a b c
def Q9w(G:Gt)(a b:V):=Qdz G (A 0) a b
def Q4j(G:Gt):Nat→V→V→V→V→M→R
 | 0,_,_,_,_,_=>none
 | i + 1,a,b,c,d,m=>(N (lenK 1 b) fun e=>D (qh a e) (qx 1 b a fun f=>C G Q6k [f] fun g=>B (bin .add false true .str c g) fun h=>B (bin .add true true .str h (E [44])) fun j=>B (X a (A 1)) fun l=>(Q4j G i) l b j d) (Q9w G d c)) m
def Qe0(G:Gt)(a b c d:V):=Q4j G G.rds a b c d
def Qe1(G:Gt)(a b c:V):=Qe0 G (A 0) a b c
def Qe2(G:Gt)(a b:V):=Qe1 G a (E [40]) b
def Q5s(G:Gt)(a b:V):=Qe2 G a b
def Qj5:En:=⟨_,_,func15,by kernel_rfl,_,X14 (s:=Q5s) fun G a b m=>Xc (r:=v2 (Q5s G) 0 1) rfl rfl (ts (v2 (Qe2 G) 0 1) (ts (v3 (Qe1 G) 0 5 1) (tr (tr (seqQ (f:=v2 (Q9w G) 1 5) (tr (tr (seqQ (f:=v1 (Qdy G) 5)) (seqQ (f:=v3 (Qdz G) 7 1 5) (tr (Xj (X1r (fun i r m=>Q4i G i (r 7) (r 1) (r 5) m) (fun _ _=>rfl) (fun i0=>fun r m=>by kernel_rfl)))))))) (seqQ (f:=v4 (Qe0 G) 6 0 5 1) (tr (Xj (X1r (fun i r m=>Q4j G i (r 6) (r 0) (r 5) (r 1) m) (fun _ _=>rfl) (fun i0=>fun r m=>by kernel_rfl))))))))) m⟩
def Q70(G:Gt)(a:V):=Q a (K (A 1)) (K (A 0))
def Qkc:En:=⟨_,_,func16,by kernel_rfl,_,X19 (s:=Q70) fun G a m=>Xc (r:=v1 (Q70 G) 0) rfl rfl (fun r m=>by kernel_rfl) m⟩
end
end Go.Ab.Sh

set_option maxRecDepth 100000
namespace Go.Ab.Sh
open Go Go.Ab Go.Proofs Go.Proofs.Tryz
noncomputable section
def Q3k(G:Gt)(a:V):=F (conv .str a) fun b=>K b
def Q3l(G:Gt)(k0:J3)(a b c:V):=B (X a (A 1)) fun d=>k0 d b c
def Q5f(G:Gt)(k0:J3):Nat→V→V→V→V→V→M→R
 | 0,_,_,_,_,_,_=>none
 | i + 1,a,b,c,d,e,m=>(H 1 b fun l=>N (lenK 1 l) fun n=>D (qh a n) (H 1 b fun o=>Y 2 o a fun p=>H 0 p fun q=>O 1 b fun f=>P f fun g=>Y 2 g a fun s=>O 1 s fun h=>P h fun j=>C G Q14 [q] fun t=>qi (L false 1 f g (L false 1 h j qj)) (F (X5 Qm [(A 0)] 1 1 [(0,t)]) fun u=>C G Q3p [j] fun v=>F (apS Qm 1 8 u v) fun w=>C G Q0 [w,(.slice none 0 0)] fun x=>F (X13 Q1u 1 1 c x) fun y=>B (X a (A 1)) fun z=>(Q5f G k0 i) z b y d e)) (Q3l G k0 d e c)) m
def Q9g(G:Gt)(k0:J3)(a b c d e:V):=Q5f G k0 G.rds a b c d e
def Qa0(G:Gt)(k0:J3)(a b c d:V):=Q9g G k0 (A 0) a b c d
def Qa1(G:Gt)(k0:J3)(b a c d:V):=H 1 a fun e=>N (lenK 1 e) fun f=>F (X5 Qm [(A 0)] 1 1 [(0,f)]) fun g=>H 0 a fun h=>F (qw h) fun j=>C G Q0 [g,j] fun l=>F (X13 Q1u 1 1 b l) fun n=>Qa0 G k0 a n c d
def Qa2(G:Gt)(k0:J3)(a b d:V):=H 8 a fun e=>Y 2 e b fun f=>qc true 2 f fun g=>S Q3z Q8d fun c=>T 2 c g (Qa1 G k0 d c b a)
def Qr(G:Gt):Nat→V→V→V→M→R
 | 0,_,_,_,_=>none
 | i + 1,a,b,c,m=>(H 8 b fun d=>N (lenK 1 d) fun e=>D (qh a e) (Qa2 G (Qr G i) b a c) (Q3k G c)) m
def Qa3(G:Gt)(a b c:V):=Qr G G.rds a b c
def Q3m(G:Gt)(a b:V):=Qa3 G (A 0) a b
def Q3a(G:Gt)(k0:J3)(a b c:V):=B (X a (A 1)) fun d=>k0 d b c
def Q5g(G:Gt)(k0:J3):Nat→V→V→V→V→V→M→R
 | 0,_,_,_,_,_,_=>none
 | i + 1,b,c,d,e,f,m=>(H 1 c fun s=>N (lenK 1 s) fun t=>D (qh b t) (H 1 c fun u=>Y 5 u b fun v=>qc true 5 v fun w=>S Qfz Q34 fun a=>T 5 a w (H 0 a fun x=>O 1 a fun y=>O 0 y fun g=>P g fun h=>F (conv (.int .i64) h) fun z=>O 1 a fun I=>O 1 I fun j=>P j fun l=>O 3 a fun n=>P n fun o=>O 4 a fun p=>P p fun q=>C G Q14 [x] fun W=>qi (L false 1 g h (L false 1 j l (L false 1 n o (L false 1 p q qj)))) (F (X5 Qm [(A 0)] 1 5 [(0,W),(1,z),(2,l),(3,o),(4,q)]) fun xa=>C G Q0 [xa,(.slice none 0 0)] fun xb=>F (X13 Q1u 1 1 d xb) fun xc=>B (X b (A 1)) fun xd=>(Q5g G k0 i) xd c xc e f))) (Q3a G k0 e f d)) m
def Q9h(G:Gt)(k0:J3)(a b c d e:V):=Q5g G k0 G.rds a b c d e
def Q9i(G:Gt)(k0:J3)(a b c d:V):=Q9h G k0 (A 0) a b c d
def Q9j(G:Gt)(k0:J3)(b a c d:V):=H 1 a fun e=>N (lenK 1 e) fun f=>F (X5 Qm [(A 0)] 1 1 [(0,f)]) fun g=>H 0 a fun h=>F (qw h) fun j=>C G Q0 [g,j] fun l=>F (X13 Q1u 1 1 b l) fun n=>Q9i G k0 a n c d
def Q9k(G:Gt)(k0:J3)(a b d:V):=H 7 a fun e=>Y 2 e b fun f=>qc true 2 f fun g=>S Q6e Qay fun c=>T 2 c g (Q9j G k0 d c b a)
def Qp(G:Gt):Nat→V→V→V→M→R
 | 0,_,_,_,_=>none
 | i + 1,b,a,c,m=>(H 7 a fun d=>N (lenK 1 d) fun e=>D (qh b e) (Q9k G (Qp G i) a b c) (Q3m G a c)) m
def Q9l(G:Gt)(a b c:V):=Qp G G.rds a b c
def Qa4(G:Gt)(a b:V):=Q9l G (A 0) a b
def Qa5(G:Gt)(a:V):=Qa4 G a (.slice none 0 0)
def Q31(G:Gt)(a:V):=S Q17 (Value.cells a).toList fun b=>Qa5 G b
def Qgn:En:=⟨_,_,func17,by kernel_rfl,_,X19 (s:=Q31) fun G a m=>Xc (r:=v1 (Q31 G) 0) rfl rfl (ts (v1 (Qa5 G) 1) (ts (v2 (Qa4 G) 1 3) (tr (tr (seqQ (f:=v2 (Q3m G) 1 3) (tr (tr (seqQ (f:=v1 (Q3k G) 3)) (seqQ (f:=v3 (Qa3 G) 8 1 3) (tr (Xj (X1r (fun i r m=>Qr G i (r 8) (r 1) (r 3) m) (fun _ _=>rfl) (fun i0=>tr (seqQ (f:=v3 (Qa2 G (Qr G i0)) 1 8 3) (tr (tr (seqQ (f:=v3 (Q3l G (Qr G i0)) 8 1 3)) (Xj (seqQ (f:=v4 (Qa1 G (Qr G i0)) 3 9 8 1) (ts (v4 (Qa0 G (Qr G i0)) 9 3 8 1) (ts (v5 (Q9g G (Qr G i0)) 10 9 3 8 1) (tr (Xj (X1r (fun i r m=>Q5f G (Qr G i0) i (r 10) (r 9) (r 3) (r 8) (r 1) m) (fun _ _=>rfl) (fun i1=>fun r m=>by kernel_rfl))))))))))))))))))) (seqQ (f:=v3 (Q9l G) 4 1 3) (tr (Xj (X1r (fun i r m=>Qp G i (r 4) (r 1) (r 3) m) (fun _ _=>rfl) (fun i0=>tr (seqQ (f:=v3 (Q9k G (Qp G i0)) 1 4 3) (tr (tr (seqQ (f:=v3 (Q3a G (Qp G i0)) 4 1 3)) (Xj (seqQ (f:=v4 (Q9j G (Qp G i0)) 3 5 4 1) (ts (v4 (Q9i G (Qp G i0)) 5 3 4 1) (ts (v5 (Q9h G (Qp G i0)) 6 5 3 4 1) (tr (Xj (X1r (fun i r m=>Q5g G (Qp G i0) i (r 6) (r 5) (r 3) (r 4) (r 1) m) (fun _ _=>rfl) (fun i1=>fun r m=>by kernel_rfl)))))))))))))))))))) m⟩
def Q2m(G:Gt)(a:V):=F (conv .str a) fun b=>K b
def Q2n(G:Gt)(k0:J3)(a b c:V):=B (X a (A 1)) fun d=>k0 d b c
def Q46(G:Gt)(k0:J3):Nat→V→V→V→V→V→M→R
 | 0,_,_,_,_,_,_=>none
 | i + 1,b,c,d,e,f,m=>(H 1 c fun xc=>N (lenK 1 xc) fun xd=>D (qh b xd) (H 1 c fun xe=>Y 15 xe b fun xf=>qc true 15 xf fun xg=>S Qlk Qgj fun a=>T 15 a xg (O 0 a fun g=>P g fun h=>O 1 a fun j=>P j fun l=>F (conv (.int .i64) l) fun xh=>O 4 a fun n=>P n fun o=>O 5 a fun p=>P p fun q=>O 6 a fun s=>P s fun t=>O 7 a fun u=>P u fun v=>O 8 a fun w=>P w fun x=>O 9 a fun y=>P y fun z=>H 11 a fun xj=>O 13 a fun I=>P I fun W=>F (conv (.int .i64) W) fun xl=>O 14 a fun xa=>P xa fun xb=>C G Q14 [xj] fun xn=>qi (L false 1 g h (L false 1 j l (L false 1 n o (L false 1 p q (L false 1 s t (L false 1 u v (L false 1 w x (L false 1 y z (L false 1 I W (L false 1 xa xb qj)))))))))) (F (X5 Qm [(A 0)] 1 11 [(0,h),(1,xh),(2,o),(3,q),(4,t),(5,v),(6,x),(7,z),(8,xn),(9,xl),(10,xb)]) fun xo=>H 10 a fun xp=>C G Q3p [xp] fun xq=>F (apS Qm 1 8 xo xq) fun xs=>H 12 a fun xt=>C G Q3p [xt] fun xu=>F (apS Qm 1 8 xs xu) fun xv=>H 2 a fun xw=>H 3 a fun xx=>F (qt xw xx) fun xy=>C G Q0 [xv,xy] fun xz=>F (X13 Q1u 1 1 d xz) fun xI=>B (X b (A 1)) fun xW=>(Q46 G k0 i) xW c xI e f))) (Q2n G k0 e f d)) m
def Q80(G:Gt)(k0:J3)(a b c d e:V):=Q46 G k0 G.rds a b c d e
def Q81(G:Gt)(k0:J3)(a b c d:V):=Q80 G k0 (A 0) a b c d
def Q82(G:Gt)(k0:J3)(f a g h:V):=O 1 a fun b=>P b fun c=>N (lenK 1 c) fun j=>H 2 a fun l=>O 0 a fun d=>P d fun e=>F (qw e) fun n=>C G Q14 [l] fun o=>qi (L false 1 b c (L false 1 d e qj)) (F (X5 Qm [(A 0)] 1 2 [(0,j),(1,o)]) fun p=>C G Q0 [p,n] fun q=>F (X13 Q1u 1 1 f q) fun s=>Q81 G k0 a s g h)
def Q83(G:Gt)(k0:J3)(a b d:V):=H 9 a fun e=>Y 3 e b fun f=>qc true 3 f fun g=>S Q5y Q93 fun c=>T 3 c g (Q82 G k0 d c b a)
def Ql(G:Gt):Nat→V→V→V→M→R
 | 0,_,_,_,_=>none
 | i + 1,a,b,c,m=>(H 9 b fun d=>N (lenK 1 d) fun e=>D (qh a e) (Q83 G (Ql G i) b a c) (Q2m G c)) m
def Q84(G:Gt)(a b c:V):=Ql G G.rds a b c
def Q85(G:Gt)(a b:V):=Q84 G (A 0) a b
def Q86(G:Gt)(a:V):=Q85 G a (.slice none 0 0)
def Q29(G:Gt)(a:V):=S Q17 (Value.cells a).toList fun b=>Q86 G b
def Qee:En:=⟨_,_,func18,by kernel_rfl,_,X19 (s:=Q29) fun G a m=>Xc (r:=v1 (Q29 G) 0) rfl rfl (ts (v1 (Q86 G) 1) (ts (v2 (Q85 G) 1 3) (tr (tr (seqQ (f:=v1 (Q2m G) 3)) (seqQ (f:=v3 (Q84 G) 4 1 3) (tr (Xj (X1r (fun i r m=>Ql G i (r 4) (r 1) (r 3) m) (fun _ _=>rfl) (fun i0=>tr (seqQ (f:=v3 (Q83 G (Ql G i0)) 1 4 3) (tr (tr (seqQ (f:=v3 (Q2n G (Ql G i0)) 4 1 3)) (Xj (seqQ (f:=v4 (Q82 G (Ql G i0)) 3 5 4 1) (ts (v4 (Q81 G (Ql G i0)) 5 3 4 1) (ts (v5 (Q80 G (Ql G i0)) 6 5 3 4 1) (tr (Xj (X1r (fun i r m=>Q46 G (Ql G i0) i (r 6) (r 5) (r 3) (r 4) (r 1) m) (fun _ _=>rfl) (fun i1=>fun r m=>by kernel_rfl)))))))))))))))))))) m⟩
def Q47(G:Gt)(a:V):=K a
def Q76(G:Gt):Nat→V→V→V→M→R
 | 0,_,_,_,_=>none
 | i + 1,a,b,c,m=>(H 10 b fun h=>N (lenK 1 h) fun j=>D (qh a j) (H 10 b fun l=>Y 3 l a fun n=>H 1 n fun o=>F (conv (.int .i64) o) fun p=>F (X5 Qm [(A 0)] 1 1 [(0,p)]) fun q=>H 10 b fun s=>Y 3 s a fun t=>H 0 t fun u=>F (qw u) fun v=>O 10 b fun d=>P d fun e=>Y 3 e a fun w=>O 2 w fun f=>P f fun g=>C G Q0 [q,v] fun x=>qi (L false 1 d e (L false 1 f g qj)) (B (bin .add false true .str c x) fun y=>C G Q2b [g] fun z=>B (bin .add false true .str y z) fun I=>B (X a (A 1)) fun W=>(Q76 G i) W b I)) (Q47 G c)) m
def Qai(G:Gt)(a b c:V):=Q76 G G.rds a b c
def Qaj(G:Gt)(a b:V):=Qai G (A 0) a b
def Qak(G:Gt)(a:V):=Qaj G a (E [])
def Q3f(G:Gt)(a:V):=S Q17 (Value.cells a).toList fun b=>Qak G b
def Qgy:En:=⟨_,_,func19,by kernel_rfl,_,X19 (s:=Q3f) fun G a m=>Xc (r:=v1 (Q3f G) 0) rfl rfl (ts (v1 (Qak G) 1) (ts (v2 (Qaj G) 1 3) (tr (tr (seqQ (f:=v1 (Q47 G) 3)) (seqQ (f:=v3 (Qai G) 4 1 3) (tr (Xj (X1r (fun i r m=>Q76 G i (r 4) (r 1) (r 3) m) (fun _ _=>rfl) (fun i0=>fun r m=>by kernel_rfl))))))))) m⟩
end
end Go.Ab.Sh

set_option maxRecDepth 100000
namespace Go.Ab.Sh
open Go Go.Ab Go.Proofs Go.Proofs.Tryz
noncomputable section
def Q4t(G:Gt)(a:V):=K a
def Q4u(G:Gt)(k0:J3)(a b c:V):=B (X a (A 1)) fun d=>k0 d b c
def Q77(G:Gt)(k0:J3):Nat→V→V→V→V→V→M→R
 | 0,_,_,_,_,_,_=>none
 | i + 1,b,c,o,p,q,m=>(H 4 c fun u=>N (lenK 1 u) fun v=>D (qh b v) (H 4 c fun w=>Y 6 w b fun x=>qc true 6 x fun y=>S Qc9 Qgs fun a=>T 6 a y (O 0 a fun d=>P d fun e=>F (conv (.int .i64) e) fun z=>O 1 a fun f=>P f fun g=>F (conv (.int .i64) g) fun I=>H 4 a fun W=>O 5 a fun s=>P s fun t=>O 2 a fun h=>P h fun j=>O 3 a fun l=>P l fun n=>F (qt j n) fun xa=>C G Q14 [W] fun xb=>qi (L false 1 d e (L false 1 f g (L false 1 s t (L false 1 h j (L false 1 l n qj))))) (C G Q14 [t] fun xc=>qi (L false 1 d e (L false 1 f g (L false 1 h j (L false 1 l n qj)))) (F (X5 Qm [(A 0)] 1 4 [(0,z),(1,I),(2,xb),(3,xc)]) fun xd=>C G Q0 [xd,xa] fun xe=>B (bin .add false true .str o xe) fun xf=>B (X b (A 1)) fun xg=>(Q77 G k0 i) xg c xf p q)))) (Q4u G k0 p q o)) m
def Qal(G:Gt)(k0:J3)(a b c d e:V):=Q77 G k0 G.rds a b c d e
def Q4v(G:Gt)(k0:J3)(a b c d:V):=Qal G k0 (A 0) a b c d
def Q78(G:Gt)(k0:J3):Nat→V→V→V→V→V→M→R
 | 0,_,_,_,_,_,_=>none
 | i + 1,b,a,c,d,e,m=>(H 3 a fun f=>N (lenK 1 f) fun g=>D (qh b g) (H 3 a fun h=>Y 2 h b fun j=>H 0 j fun l=>F (conv (.int .i64) l) fun n=>H 3 a fun o=>Y 2 o b fun p=>H 1 p fun q=>F (X5 Qm [(A 0)] 1 2 [(0,n),(1,q)]) fun s=>C G Q0 [s,(.slice none 0 0)] fun t=>B (bin .add false true .str c t) fun u=>B (X b (A 1)) fun v=>(Q78 G k0 i) v a u d e) (Q4v G k0 a c d e)) m
def Qam(G:Gt)(k0:J3)(a b c d e:V):=Q78 G k0 G.rds a b c d e
def Qb9(G:Gt)(k0:J3)(a b c d:V):=Qam G k0 (A 0) a b c d
def Qba(G:Gt)(k0:J3)(d a e f:V):=H 1 a fun g=>F (conv (.int .i64) g) fun h=>H 2 a fun j=>F (conv (.int .i64) j) fun l=>H 3 a fun n=>N (lenK 1 n) fun o=>H 4 a fun p=>N (lenK 1 p) fun q=>F (X5 Qm [(A 0)] 1 4 [(0,h),(1,l),(2,o),(3,q)]) fun s=>H 0 a fun t=>F (qw t) fun u=>O 5 a fun b=>P b fun c=>C G Q0 [s,u] fun v=>qi (L false 1 b c qj) (B (bin .add false true .str d v) fun w=>C G Q2b [c] fun x=>B (bin .add false true .str w x) fun y=>Qb9 G k0 a y e f)
def Qbb(G:Gt)(k0:J3)(a b d:V):=H 11 a fun e=>Y 6 e b fun f=>qc true 6 f fun g=>S Qo8 Qk1 fun c=>T 6 c g (Qba G k0 d c b a)
def Qc(G:Gt):Nat→V→V→V→M→R
 | 0,_,_,_,_=>none
 | i + 1,a,b,c,m=>(H 11 b fun d=>N (lenK 1 d) fun e=>D (qh a e) (Qbb G (Qc G i) b a c) (Q4t G c)) m
def Qbc(G:Gt)(a b c:V):=Qc G G.rds a b c
def Qbd(G:Gt)(a b:V):=Qbc G (A 0) a b
def Qbe(G:Gt)(a:V):=Qbd G a (E [])
def Q3v(G:Gt)(a:V):=S Q17 (Value.cells a).toList fun b=>Qbe G b
def Qh7:En:=⟨_,_,func20,by kernel_rfl,_,X19 (s:=Q3v) fun G a m=>Xc (r:=v1 (Q3v G) 0) rfl rfl (ts (v1 (Qbe G) 1) (ts (v2 (Qbd G) 1 3) (tr (tr (seqQ (f:=v1 (Q4t G) 3)) (seqQ (f:=v3 (Qbc G) 4 1 3) (tr (Xj (X1r (fun i r m=>Qc G i (r 4) (r 1) (r 3) m) (fun _ _=>rfl) (fun i0=>tr (seqQ (f:=v3 (Qbb G (Qc G i0)) 1 4 3) (tr (tr (seqQ (f:=v3 (Q4u G (Qc G i0)) 4 1 3)) (Xj (seqQ (f:=v4 (Qba G (Qc G i0)) 3 5 4 1) (ts (v4 (Qb9 G (Qc G i0)) 5 3 4 1) (tr (tr (seqQ (f:=v4 (Q4v G (Qc G i0)) 5 3 4 1) (ts (v5 (Qal G (Qc G i0)) 7 5 3 4 1) (tr (Xj (X1r (fun i r m=>Q77 G (Qc G i0) i (r 7) (r 5) (r 3) (r 4) (r 1) m) (fun _ _=>rfl) (fun i1=>fun r m=>by kernel_rfl)))))) (seqQ (f:=v5 (Qam G (Qc G i0)) 6 5 3 4 1) (tr (Xj (X1r (fun i r m=>Q78 G (Qc G i0) i (r 6) (r 5) (r 3) (r 4) (r 1) m) (fun _ _=>rfl) (fun i1=>fun r m=>by kernel_rfl)))))))))))))))))))))) m⟩
def Qky(G:Gt)(a:V):=B (Xg Q3 [(0,1),(1,1)] []) fun b=>qq (Xd 2 a b) fun _=>fun m=>ob (ob (X8 true 2 a m) fun v=>ob (some [(A 0)]) fun l=>some (v :: l)) fun l=>some (X1i l,m)
def Qfw(G:Gt)(k0:J5)(a b c d e:V):=B (X a (A 1)) fun f=>k0 f b c d e
def Qav(G:Gt)(k0:J5)(c a b d e f:V):=Q c (qc true 2 a fun g=>qq (Xd 2 b g) fun _=>fun m=>ob (ob (X8 true 2 b m) fun v=>ob (some [(A 70)]) fun l=>some (v :: l)) fun l=>some (X1i l,m)) (H 1 a fun h=>B (X h (A 1)) fun j=>qk 1 a j (Qfw G k0 d e a b f))
def Qjo(G:Gt)(k0:J5)(g a c d e b f:V):=Q g (H 0 a fun h=>B (X h (A 1)) fun j=>B (Xg Q3 [(0,1),(1,1)] [(0,j),(1,(A 1))]) fun l=>T 2 a l (Qfw G k0 c d a e b)) (B (Xe b f) fun n=>D (bin .lss true true .int n (.int .u8 32)) (Qav G k0 qf a e c d b) (B (Xe b f) fun o=>B (bin .gtr true true .int o (.int .u8 126)) fun p=>Qav G k0 p a e c d b))
def Qjp(G:Gt)(k0:J5)(e b a c d f g:V):=Q e (qc true 2 b fun h=>qq (Xd 2 a h) fun _=>fun m=>ob (ob (X8 true 2 a m) fun v=>ob (some [(A 3)]) fun l=>some (v :: l)) fun l=>some (X1i l,m)) (B (Xe c d) fun j=>B (qg j (.int .u8 10)) fun n=>Qjo G k0 n b f g a c d)
def Qkz(G:Gt)(k0:J5)(a b c d e f:V):=H 0 a fun g=>B (bin .gtr true true .int g (A 4096)) fun h=>Qjp G k0 h a b c d e f
def Ql0(G:Gt)(k0:J5)(a b c d e:V):=Qkz G k0 b c d a a e
def Qhq(G:Gt)(k0:J5)(b c d a e f:V):=Q b (Ql0 G k0 c d a e f) (Qky G a)
def Q24(G:Gt):Nat→V→V→V→V→V→M→R
 | 0,_,_,_,_,_,_=>none
 | i + 1,a,b,c,d,e,m=>(B (qh a b) fun f=>Qhq G (Q24 G i) f a c d e b) m
def Ql1(G:Gt)(a b c d e:V):=Q24 G G.rds a b c d e
def Ql2(G:Gt)(a b c:V):=N (lenK 0 a) fun d=>Ql1 G (A 0) d b c a
def Ql3(G:Gt)(b c:V):=B (Xg Q3 [(0,1),(1,1)] [(0,(A 1)),(1,(A 1))]) fun d=>S Q8 Q3 fun a=>T 2 a d (Ql2 G b a c)
def Ql4(G:Gt)(b a:V):=N (lenK 0 b) fun c=>D (bin .gtr true true .int c (A 65536)) (B (Xg Q3 [(0,1),(1,1)] []) fun d=>qq (Xd 2 a d) fun _=>fun m=>ob (ob (X8 true 2 a m) fun v=>ob (some [(A 3)]) fun l=>some (v :: l)) fun l=>some (X1i l,m)) (Ql3 G b a)
def Qcz(G:Gt)(a:V):=S Q8 Q3 fun b=>Ql4 G a b
def Qp8:En:=⟨_,_,func21,by kernel_rfl,_,X19 (s:=Qcz) fun G a m=>Xc (r:=v1 (Qcz G) 0) rfl rfl (ts (v2 (Ql4 G) 0 2) (ts (v2 (Ql3 G) 0 2) (ts (v3 (Ql2 G) 0 4 2) (tr (tr (seqQ (f:=v1 (Qky G) 2)) (seqQ (f:=v5 (Ql1 G) 13 12 4 2 0) (tr (Xj (X1r (fun i r m=>Q24 G i (r 13) (r 12) (r 4) (r 2) (r 0) m) (fun _ _=>rfl) (fun i0=>tr (seqQ (f:=v6 (Qhq G (Q24 G i0)) 14 13 4 2 0 12) (ts (v5 (Ql0 G (Q24 G i0)) 13 4 2 0 12) (tr (tr (seqQ (f:=v5 (Qfw G (Q24 G i0)) 13 12 4 2 0)) (Xj (seqQ (f:=v6 (Qkz G (Q24 G i0)) 4 2 0 5 13 12) (tr (tr seqD (Xj (seqQ (f:=v7 (Qjp G (Q24 G i0)) 16 4 2 0 5 13 12) (tr (X40 (refQ) (seqQ (f:=v7 (Qjo G (Q24 G i0)) 21 4 13 12 2 0 5) (tr (X40 (refQ) (seqQ (f:=v6 (Qav G (Q24 G i0)) 30 4 2 13 12 0))))))))))))))))))))))))))) m⟩
def Q7r(G:Gt)(a b:V):=C G Qc6 [a,b,(A 0),(A (-1))] fun c=>K c
def Qm4:En:=⟨_,_,func22,by kernel_rfl,_,X14 (s:=Q7r) fun G a b m=>Xc (r:=v2 (Q7r G) 0 1) rfl rfl (fun r m=>by kernel_rfl) m⟩
def Qan(G:Gt)(e a b:V):=Q e (B (Xe b (A 0)) fun f=>C G Q5z [a,f] fun g=>K g) (C G Q60 [b] fun c=>U c 0 fun h=>U c 1 fun j=>S Q2f Q38 fun d=>T 256 d h (Q j (C G Q58 [a,d] fun l=>K l) (C G Qgd [a,b] fun n=>K n)))
def Qfd(G:Gt)(a b:V):=N (lenK 0 a) fun c=>D (qg c (A 1)) (B (Xe a (A 0)) fun d=>B (bin .lss true true .int d (.int .u8 128)) fun e=>Qan G e b a) (Qan G qe b a)
def Q7s(G:Gt)(b a c:V):=Q b (K a) (Qfd G c a)
def Qfe(G:Gt)(a b:V):=D (qd a (E [])) (Q7s G qf a b) (B (qd b (E [])) fun c=>Q7s G c a b)
def Q71(G:Gt)(a b:V):=Qfe G a b
def Qke:En:=⟨_,_,func23,by kernel_rfl,_,X14 (s:=Q71) fun G a b m=>Xc (r:=v2 (Q71 G) 0 1) rfl rfl (ts (v2 (Qfe G) 0 1) (tr (tr (seqQ (f:=v2 (Qfd G) 1 0) (tr (tr seqD (seqQ (f:=v3 (Qan G) 21 0 1))))) (seqQ (f:=v3 (Q7s G) 12 0 1))))) m⟩
def Qc2(G:Gt)(b c:V):=C G Q69 [b,c] fun a=>U a 0 fun d=>U a 1 fun e=>U a 2 fun f=>K (.tuple ⟨[d,e,f]⟩)
def Qne:En:=⟨_,_,func24,by kernel_rfl,_,X14 (s:=Qc2) fun G a b m=>Xc (r:=v2 (Qc2 G) 0 1) rfl rfl (fun r m=>by kernel_rfl) m⟩
def Q5t(G:Gt)(a:V):=C G Q1k [a] fun c=>D (un .not c) (qa 0 a fun d=>qa 0 a fun e=>N (lenK 1 e) fun f=>B (bin .sub true true .int f (A 1)) fun g=>Y 3 d g fun h=>qc true 3 h fun j=>S Qag Qf6 fun b=>T 3 b j (O 1 b fun l=>H 0 l fun n=>O 1 b fun o=>H 1 o fun p=>H 0 b fun q=>N (lenK 0 q) fun s=>B (bin .add false true .int p s) fun t=>B (Xg Q3 [(0,1),(1,1)] [(0,n),(1,t)]) fun u=>C G Q10 [a,u,(A 130)] fun xa=>K (E []))) (qa 1 a fun v=>B (X v (A 1)) fun w=>Z 1 a w (qa 0 a fun x=>qa 1 a fun y=>B (bin .sub true true .int y (A 1)) fun z=>Y 3 x z fun I=>H 0 I fun W=>K W))
def Qj6:En:=⟨_,_,func25,by kernel_rfl,_,X19 (s:=Q5t) fun G a m=>Xc (r:=v1 (Q5t G) 0) rfl rfl (fun r m=>by kernel_rfl) m⟩
def Q9x(G:Gt)(a:V):=K a
def Qe3(G:Gt)(a b:V):=C G Qlb [a] fun c=>D (un .not c) (C G Q5 [b,(A 130)] fun d=>Q9x G a) (Q9x G a)
def Qe4(G:Gt)(a:V):=C G Qe [a] fun b=>Qe3 G b a
def Q5u(G:Gt)(a:V):=Qe4 G a
def Qj7:En:=⟨_,_,func26,by kernel_rfl,_,X19 (s:=Q5u) fun G a m=>Xc (r:=v1 (Q5u G) 0) rfl rfl (ts (v1 (Qe4 G) 0) (ts (v2 (Qe3 G) 3 0) (ts (v1 (Q9x G) 3)))) m⟩
def Q59(G:Gt)(a b:V):=qa 14 a fun c=>qq (X31 .str c b qf) fun _=>qv
def Qbw(G:Gt)(a b:V):=qa 15 a fun c=>Q c (Z 15 a qf (Q59 G a b)) (qa 14 a fun d=>N (X5u .str qe false d b) fun e=>Z 15 a e (Q59 G a b))
def Q4k(G:Gt)(a b:V):=C G Q3t [a,(E [32])] fun c=>Qbw G b c
def Qi1:En:=⟨_,_,func27,by kernel_rfl,_,X14 (s:=(fun G a b=>Q4k G b a)) fun G a b m=>Xc (r:=v2 (Q4k G) 1 0) rfl rfl (ts (v2 (Qbw G) 0 4) (ts (v2 (Q59 G) 0 4))) m⟩
def Q5v(G:Gt)(a b c:V):=C G Q2w [a,b] fun e=>C G Q3t [b,(E [32])] fun d=>Z 12 a c (Z 13 a d (qv))
def Qj8:En:=⟨_,_,func28,by kernel_rfl,_,Xeh (s:=(fun G a b c=>Q5v G a c b)) fun G a b c m=>Xc (r:=v3 (Q5v G) 0 2 1) rfl rfl (fun r m=>by kernel_rfl) m⟩
end
end Go.Ab.Sh
