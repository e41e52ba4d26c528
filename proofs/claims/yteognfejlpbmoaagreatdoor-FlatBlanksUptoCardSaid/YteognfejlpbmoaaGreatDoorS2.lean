/-
  Functions of the program as plain definitions. No conditions.
-/
import Derived.Test.YteognfejlpbmoaaGreatDoorAb5
import Derived.Test.YteognfejlpbmoaaGreatDoorZ
import Derived.KernelRfl
import Derived.Test.YteognfejlpbmoaaGreatDoorProg
set_option linter.unusedSimpArgs false
set_option linter.unusedVariables false
set_option maxRecDepth 100000
namespace Go.Ab.Sh
open Go Go.Ab Go.Proofs Go.Proofs.Tryz
noncomputable section
def Qe8(G:Gt):=K (A (-1))
def Q4o(G:Gt):Nat→V→M→R
 | 0,_,_=>none
 | i + 1,b,m=>(F (X45 b) fun a=>U a 0 fun c=>Q c (U a 1 fun d=>U a 2 fun e=>D (qg e (.int .i32 65533)) (K d) ((Q4o G i) b)) (Qe8 G)) m
def Qe9(G:Gt)(a:V):=Q4o G G.rds a
def Qd4(G:Gt):=K (A (-1))
def Qd5(G:Gt)(k0:J6)(a b c d e f:V):=B (X a (A 1)) fun g=>k0 g b c d e f
def Qh8(G:Gt)(a b:V):=B (bin .sub false true .int a b) fun c=>K c
def Qd6(G:Gt)(k0:J6):Nat→V→V→V→V→V→V→V→M→R
 | 0,_,_,_,_,_,_,_,_=>none
 | i + 1,a,b,e,c,d,f,g,m=>(N (lenK 0 b) fun h=>D (qh a h) (B (bin .sub false true .int c a) fun j=>B (Xe e j) fun l=>B (bin .sub false true .int d a) fun n=>B (Xe b n) fun o=>D (bin .neq false true .int l o) (Qd5 G k0 c e f g b d) (B (X a (A 1)) fun p=>(Qd6 G k0 i) p b e c d f g)) (Qh8 G c d)) m
def Qh9(G:Gt)(k0:J6)(a b c d e f g:V):=Qd6 G k0 G.rds a b c d e f g
def Qd7(G:Gt)(k0:J6)(g a b c d e f:V):=Q g (Qh9 G k0 (A 2) a b c d e f) (Qd5 G k0 c b e f a d)
def Qha(G:Gt)(k0:J6)(a b c d e f:V):=B (Xe a b) fun g=>D (bin .eql false true .int g c) (B (bin .sub true true .int b (A 1)) fun h=>B (Xe a h) fun j=>B (bin .eql false true .int j d) fun l=>Qd7 G k0 l e a b f c d) (Qd7 G k0 qe e a b f c d)
def Q20(G:Gt):Nat→V→V→V→V→V→V→M→R
 | 0,_,_,_,_,_,_,_=>none
 | i + 1,a,b,c,d,e,f,m=>(N (lenK 0 b) fun g=>D (qh a g) (Qha G (Q20 G i) b a c d e f) (Qd4 G)) m
def Qhb(G:Gt)(a b c d e f:V):=Q20 G G.rds a b c d e f
def Qhc(G:Gt)(a b c d e f:V):=Qhb G a b c d e f
def Qhd(G:Gt)(a b c d e:V):=B (bin .sub true true .int b (A 1)) fun f=>B (Xe a f) fun g=>Qhc G c d e g a b
def Qhe(G:Gt)(c b a f d:V):=Q qf (B (bin .sub false true .int b a) fun g=>B (Xw c (some g) none) fun h=>F (conv .intStr f) fun j=>C G Qia [h,j] fun e=>D (bin .geq true true .int e (A 0)) (B (bin .add false true .int b e) fun l=>B (bin .sub false true .int l a) fun n=>K n) (Qd4 G)) (B (Xe d a) fun o=>Qhd G d a b c o)
def Qmc(G:Gt)(a b c d e:V):=Qhe G a b c d e
def Qhf(G:Gt):=K (A (-1))
def Q91(G:Gt)(k0:J4)(a b c d e:V):=Q a (fun m=>none) (k0 b c d e)
def Qhg(G:Gt)(k0:J4)(e a b c d:V):=C G Qko [a] fun f=>D (bin .gtr false true .int e f) (N (lenK 0 b) fun g=>D (qh a g) (Q91 G k0 qf a b c d) (Q91 G k0 qe a b c d)) (Q91 G k0 qe a b c d)
def Qhh(G:Gt)(k0:J4)(a b c d e:V):=B (X a (A 1)) fun f=>Qhg G k0 b f c d e
def Qhi(G:Gt)(k0:J4)(a b c d e:V):=B (X a (A 1)) fun f=>Qhh G k0 b f c d e
def Qmd(G:Gt)(k0:J4)(a b c d e:V):=Qhi G k0 a b c d e
def Qhj(G:Gt)(a b:V):=B (bin .sub false true .int a b) fun c=>K c
def Qd8(G:Gt):Nat→V→V→V→V→V→M→R
 | 0,_,_,_,_,_,_=>none
 | i + 1,a,b,e,c,d,m=>(N (lenK 0 b) fun f=>D (qh a f) (B (bin .sub false true .int c a) fun g=>B (Xe e g) fun h=>B (bin .sub false true .int d a) fun j=>B (Xe b j) fun l=>D (bin .neq false true .int h l) (fun m=>none) (B (X a (A 1)) fun n=>(Qd8 G i) n b e c d)) (Qhj G c d)) m
def Qhk(G:Gt)(a b c d e:V):=Qd8 G G.rds a b c d e
def Qd9(G:Gt)(a b c d:V):=Qhk G (A 1) a b c d
def Qd3(G:Gt)(k0:J4)(a b c d:V):=B (Xe a b) fun f=>B (Xe c d) fun g=>D (bin .neq false true .int f g) (B (X b (A 1)) fun h=>B (Xw a (some h) none) fun j=>B (Xe c d) fun l=>C G Q8k [j,l] fun e=>D (bin .lss true true .int e (A 0)) (K (A (-1))) (B (X e (A 1)) fun n=>B (bin .add false true .int b n) fun o=>Qd9 G c a o d)) (Qd9 G c a b d)
def Q19(G:Gt):Nat→V→V→V→V→M→R
 | 0,_,_,_,_,_=>none
 | i + 1,a,b,c,d,m=>(N (lenK 0 b) fun e=>D (qh a e) (Qd3 G (Q19 G i) b a c d) (Qhf G)) m
def Qd2(G:Gt)(a b c d:V):=Q19 G G.rds a b c d
def Qed(G:Gt)(a b c d:V):=Qd2 G a b c d
def Qec(G:Gt)(a b c:V):=Qed G a b c a
def Qeb(G:Gt)(a b:V):=N (lenK 0 a) fun c=>B (bin .sub true true .int c (A 1)) fun d=>Qec G d b a
def Qea(G:Gt)(a b c:V):=Q a (K (A (-1))) (F (conv .intStr b) fun d=>Qeb G d c)
def Q9z(G:Gt)(c a b:V):=Q c (F (X3w a) fun d=>Qe9 G d) (C G Q7m [b] fun e=>B (un .not e) fun f=>Qea G f b a)
def Q4n(G:Gt)(c b a:V):=Q c (F (conv (.int .u8) a) fun d=>C G Q8k [b,d] fun e=>K e) (B (qg a (.int .i32 65533)) fun f=>Q9z G f b a)
def Q74(G:Gt)(a b:V):=D (bin .leq true true .int (.int .i32 0) a) (B (bin .lss true true .int a (.int .i32 128)) fun c=>Q4n G c b a) (Q4n G qe b a)
def Q2r(G:Gt)(a b:V):=Q74 G a b
def Qja:En:=⟨_,_,func93,by kernel_rfl,_,X14 (s:=(fun G a b=>Q2r G b a)) fun G a b m=>Xc (r:=v2 (Q2r G) 1 0) rfl rfl (ts (v2 (Q74 G) 1 0) (tr (Xj (seqQ (f:=v3 (Q4n G) 160 0 1) (tr (X40 (refQ) (seqQ (f:=v3 (Q9z G) 171 0 1) (tr (X40 (tr (seqQ (f:=v0 (Qe8 G))) (seqQ (f:=v1 (Qe9 G) 175) (tr (Xj (X1r (fun i r m=>Q4o G i (r 175) m) (fun _ _=>rfl) (fun i0=>fun r m=>by kernel_rfl)))))) (seqQ (f:=v3 (Qea G) 183 1 0) (tr (X40 (refQ) (Xpm (seqQ (f:=v2 (Qeb G) 7 0) (ts (v3 (Qec G) 8 0 7) (ts (v4 (Qed G) 9 0 7 8) (ts (v4 (Qd2 G) 9 0 7 8) (tr (tr (seqQ (f:=v0 (Qhf G)) (ts (v5 (Qmc G) 0 9 8 1 7) (ts (v5 (Qhe G) 0 9 8 1 7) (tr (tr (seqQ (f:=v0 (Qd4 G))) (X40 (refQ) (Xpm (seqQ (f:=v5 (Qhd G) 7 8 9 0 14) (ts (v6 (Qhc G) 9 0 14 15 7 8) (ts (v6 (Qhb G) 9 0 14 15 7 8) (tr (Xj (X1r (fun i r m=>Q20 G i (r 9) (r 0) (r 14) (r 15) (r 7) (r 8) m) (fun _ _=>rfl) (fun i0=>tr (seqQ (f:=v6 (Qha G (Q20 G i0)) 0 9 14 15 7 8) (tr (tr (seqQ (f:=v6 (Qd5 G (Q20 G i0)) 9 0 14 15 7 8)) (Xj (seqQ (f:=v7 (Qd7 G (Q20 G i0)) 139 7 0 9 8 14 15) (tr (X40 (tr (seqQ (f:=v2 (Qh8 G) 9 8)) (seqQ (f:=v7 (Qh9 G (Q20 G i0)) 16 7 0 9 8 14 15) (tr (Xj (X1r (fun i r m=>Qd6 G (Q20 G i0) i (r 16) (r 7) (r 0) (r 9) (r 8) (r 14) (r 15) m) (fun _ _=>rfl) (fun i1=>fun r m=>by kernel_rfl)))))) (refQ)))))))))))))))))))))) (Xj (X1r (fun i r m=>Q19 G i (r 9) (r 0) (r 7) (r 8) m) (fun _ _=>rfl) (fun i0=>tr (seqQ (f:=v4 (Qd3 G (Q19 G i0)) 0 9 7 8) (tr (Xj (Xpm (seqQ (f:=v4 (Qd9 G) 7 0 9 8) (tr (tr (seqQ (f:=v2 (Qhj G) 9 8) (ts (v5 (Qmd G (Q19 G i0)) 10 9 0 7 8) (ts (v5 (Qhi G (Q19 G i0)) 10 9 0 7 8) (ts (v5 (Qhh G (Q19 G i0)) 9 10 0 7 8) (ts (v5 (Qhg G (Q19 G i0)) 10 9 0 7 8) (ts (v5 (Q91 G (Q19 G i0)) 98 9 0 7 8))))))) (seqQ (f:=v5 (Qhk G) 12 7 0 9 8) (tr (Xj (X1r (fun i r m=>Qd8 G i (r 12) (r 7) (r 0) (r 9) (r 8) m) (fun _ _=>rfl) (fun i1=>fun r m=>by kernel_rfl)))))))))))))))))))))))))))))))))) m⟩
def Qjq(G:Gt)(a:V):=K (.tuple ⟨[a,(A 0)]⟩)
def Qax(G:Gt):Nat→V→V→V→M→R
 | 0,_,_,_,_=>none
 | i + 1,a,b,c,m=>(D (bin .lss true true .int a (A 4)) (qx 1 b a fun e=>C G Q7y [e,(A 255)] fun d=>U d 0 fun f=>U d 1 fun g=>D (un .not g) (K (.tuple ⟨[(.int .u32 0),(A 4)]⟩)) (B (bin .shl true true .int c (.int .u64 8)) fun h=>F (conv (.int .u32) f) fun j=>B (bin .or false true .int h j) fun l=>B (X a (A 1)) fun n=>(Qax G i) n b l)) (Qjq G c)) m
def Qjv(G:Gt)(a b c:V):=Qax G G.rds a b c
def Qju(G:Gt)(a b:V):=Qjv G (A 0) a b
def Qjt(G:Gt)(a:V):=Qju G a (.int .u32 0)
def Qjs(G:Gt)(a:V):=N (lenK 1 a) fun b=>D (bin .neq true true .int b (A 4)) (K (.tuple ⟨[(.int .u32 0),(A 4)]⟩)) (Qjt G a)
def Qjr(G:Gt)(a:V):=C G Q7l [a,(E [46])] fun b=>Qjs G b
def Qe7(G:Gt)(a:V):=Qjr G a
def Qor:En:=⟨_,_,func97,by kernel_rfl,_,X19 (s:=Qe7) fun G a m=>Xc (r:=v1 (Qe7 G) 0) rfl rfl (ts (v1 (Qjr G) 0) (ts (v1 (Qjs G) 4) (ts (v1 (Qjt G) 4) (ts (v2 (Qju G) 4 5) (tr (tr (seqQ (f:=v1 (Qjq G) 5)) (seqQ (f:=v3 (Qjv G) 14 4 5) (tr (Xj (X1r (fun i r m=>Qax G i (r 14) (r 4) (r 5) m) (fun _ _=>rfl) (fun i0=>fun r m=>by kernel_rfl))))))))))) m⟩
def Qg3(G:Gt)(a:V):=B (un .xor a) fun c=>C G Q6a [c] fun b=>C G Qfv [b] fun d=>B (un .xor d) fun e=>D (bin .neq false true .int e a) (K (.tuple ⟨[(A 0),(A 10)]⟩)) (K (.tuple ⟨[b,(A 0)]⟩))
def Qp9:En:=⟨_,_,func98,by kernel_rfl,_,X19 (s:=Qg3) fun G a m=>Xc (r:=v1 (Qg3 G) 0) rfl rfl (fun r m=>by kernel_rfl) m⟩
def Qgv(G:Gt)(d a:V):=Q d (K (A 1)) (O 0 a fun b=>P b fun c=>H 1 a fun e=>C G Qfv [e] fun f=>qi (L false 1 b c qj) (B (bin .and false true .int c f) fun g=>D (bin .neq true true .int g (.int .u32 0)) (K (A 10)) (K (A 0))))
def Qjw(G:Gt)(a:V):=H 1 a fun b=>D (bin .lss true true .int b (A 0)) (Qgv G qf a) (H 1 a fun c=>B (bin .gtr true true .int c (A 32)) fun d=>Qgv G d a)
def Qe6(G:Gt)(a:V):=S Q16 (Value.cells a).toList fun b=>Qjw G b
def Qoq:En:=⟨_,_,func99,by kernel_rfl,_,X19 (s:=Qe6) fun G a m=>Xc (r:=v1 (Qe6 G) 0) rfl rfl (ts (v1 (Qjw G) 1) (tr (tr seqD (Xj (seqQ (f:=v2 (Qgv G) 3 1)))))) m⟩
def Q5w(G:Gt)(a:V):=S Q16 Qq fun b=>C G Qg [a,(E [97,110,121])] fun c=>Q c (B (Xg Qq [(0,1),(1,1)] []) fun d=>qq (Xd 2 b d) fun _=>fun m=>ob (ob (X8 true 2 b m) fun v=>ob (some []) fun l=>some (v :: l)) fun l=>some (X1i l,m)) (C G Qg [a,(E [104,111,115,116])] fun e=>Q e (C G Qz [a] fun f=>B (Xg Qq [(0,1),(1,1)] [(0,f),(1,(A 32))]) fun g=>qq (Xd 2 b g) fun _=>fun m=>ob (ob (X8 true 2 b m) fun v=>ob (some []) fun l=>some (v :: l)) fun l=>some (X1i l,m)) (C G Qz [a] fun h=>C G Q3y [a,qf] fun j=>C G Q6f [a,h,j] fun n=>qq (Xd 2 b n) fun _=>fun m=>ob (ob (X8 true 2 b m) fun v=>ob (some []) fun l=>some (v :: l)) fun l=>some (X1i l,m)))
def Qjb:En:=⟨_,_,func100,by kernel_rfl,_,X19 (s:=Q5w) fun G a m=>Xc (r:=v1 (Q5w G) 0) rfl rfl (fun r m=>by kernel_rfl) m⟩
def Q3w(G:Gt)(f c a b:V):=Q f (qc true 2 c fun g=>qq (Xd 2 a g) fun _=>fun m=>ob (ob (X8 true 2 a m) fun v=>ob (some []) fun l=>some (v :: l)) fun l=>some (X1i l,m)) (C G Qg [b,(E [101,113])] fun h=>Q h (C G Q2 [b,(A 0),(A 65535)] fun j=>F (conv (.int .u32) j) fun d=>B (Xg Q8y [(0,1),(1,1)] [(0,d),(1,d)]) fun n=>qq (Xd 2 a n) fun _=>fun m=>ob (ob (X8 true 2 a m) fun v=>ob (some []) fun l=>some (v :: l)) fun l=>some (X1i l,m)) (C G Qg [b,(E [114,97,110,103,101])] fun o=>Q o (C G Q2 [b,(A 0),(A 65535)] fun e=>F (conv (.int .u32) e) fun p=>C G Q2 [b,e,(A 65535)] fun q=>F (conv (.int .u32) q) fun s=>B (Xg Q8y [(0,1),(1,1)] [(0,p),(1,s)]) fun t=>qq (Xd 2 a t) fun _=>fun m=>ob (ob (X8 true 2 a m) fun v=>ob (some []) fun l=>some (v :: l)) fun l=>some (X1i l,m)) (qc true 2 c fun u=>qq (Xd 2 a u) fun _=>fun m=>ob (ob (X8 true 2 a m) fun v=>ob (some []) fun l=>some (v :: l)) fun l=>some (X1i l,m))))
def Qd1(G:Gt)(a b c d:V):=D (bin .neq true true .int a (A 6)) (B (bin .neq true true .int a (A 17)) fun e=>Q3w G e b c d) (Q3w G qe b c d)
def Qd0(G:Gt)(b c d:V):=B (Xg Q8y [(0,1),(1,1)] [(1,(.int .u32 65535))]) fun e=>S Qpk Q8y fun a=>T 2 a e (Qd1 G b a c d)
def Q54(G:Gt)(a b:V):=S Qpk Q8y fun c=>Qd0 G a c b
def Qii:En:=⟨_,_,func101,by kernel_rfl,_,X14 (s:=(fun G a b=>Q54 G b a)) fun G a b m=>Xc (r:=v2 (Q54 G) 1 0) rfl rfl (ts (v3 (Qd0 G) 1 4 0) (ts (v4 (Qd1 G) 1 5 4 0) (tr (tr seqD (Xj (seqQ (f:=v4 (Q3w G) 9 5 4 0))))))) m⟩
end
end Go.Ab.Sh

set_option maxRecDepth 100000
namespace Go.Ab.Sh
open Go Go.Ab Go.Proofs Go.Proofs.Tryz
noncomputable section
def Q7t(G:Gt)(d a e f:V):=Q d (B (Xg Qq [(0,1),(1,1)] []) fun g=>qq (Xd 2 a g) fun _=>fun m=>ob (ob (X8 true 2 a m) fun v=>ob (some [(A 4)]) fun l=>some (v :: l)) fun l=>some (X1i l,m)) (B (Xg Qq [(0,1),(1,1)] [(0,e),(1,f)]) fun h=>S Q16 Qq fun b=>T 2 b h (qc true 2 b fun j=>C G Qgm [j] fun c=>D (bin .neq true true .int c (A 0)) (B (Xg Qq [(0,1),(1,1)] []) fun n=>qq (Xd 2 a n) fun _=>fun m=>ob (ob (X8 true 2 a m) fun v=>ob (some [c]) fun l=>some (v :: l)) fun l=>some (X1i l,m)) (qc true 2 b fun o=>qq (Xd 2 a o) fun _=>fun m=>ob (ob (X8 true 2 a m) fun v=>ob (some [(A 0)]) fun l=>some (v :: l)) fun l=>some (X1i l,m))))
def Qfs(G:Gt)(d e f a b c:V):=D (un .not d) (Q7t G qf a b c) (D (un .not e) (Q7t G qf a b c) (B (bin .neq true true .int f (A 0)) fun g=>Q7t G g a b c))
def Qfr(G:Gt)(b c d e f:V):=C G Q7y [b,(A 32)] fun a=>U a 0 fun g=>U a 1 fun h=>Qfs G c h d e f g
def Qfq(G:Gt)(b c d e:V):=C G Qgl [b] fun a=>U a 0 fun f=>U a 1 fun g=>Qfr G c d g e f
def Qas(G:Gt)(b c:V):=C G Q4w [b,(E [47])] fun a=>U a 0 fun d=>U a 1 fun e=>U a 2 fun f=>Qfq G d e f c
def Q73(G:Gt)(a:V):=S Q16 Qq fun b=>Qas G a b
def Qkg:En:=⟨_,_,func102,by kernel_rfl,_,X19 (s:=Q73) fun G a m=>Xc (r:=v1 (Q73 G) 0) rfl rfl (ts (v2 (Qas G) 0 2) (ts (v4 (Qfq G) 4 5 6 2) (ts (v5 (Qfr G) 5 6 8 2 7) (ts (v6 (Qfs G) 6 10 8 2 7 9) (tr (tr seqD (seqQ (f:=v4 (Q7t G) 38 2 7 9)))))))) m⟩
def Q5h(G:Gt)(a b:V):=Q a (K (.tuple ⟨[(.int .u32 0),(A 4)]⟩)) (K (.tuple ⟨[b,(A 0)]⟩))
def Qin(G:Gt)(b c a d:V):=D (bin .neq true false .iface b .nilIface) (Q5h G qf a) (D (bin .neq true false .iface c .nilIface) (Q5h G qf a) (C G Qib [a] fun e=>B (bin .neq false true .str e d) fun f=>Q5h G f a))
def Qim(G:Gt)(a b c d e:V):=F (conv (.int .u32) a) fun f=>B (bin .shl true true .int f (.int .u64 16)) fun g=>F (conv (.int .u32) b) fun h=>B (bin .or false true .int g h) fun j=>Qin G c d j e
def Qil(G:Gt)(b c d e:V):=C G Q9 [b,(A 10),(A 16)] fun a=>U a 0 fun f=>U a 1 fun g=>Qim G c f d g e
def Qik(G:Gt)(b c d:V):=C G Q9 [b,(A 10),(A 16)] fun a=>U a 0 fun e=>U a 1 fun f=>Qil G c e f d
def Qij(G:Gt)(b:V):=C G Q4w [b,(E [58])] fun a=>U a 0 fun c=>U a 1 fun d=>U a 2 fun e=>Qik G c d b
def Qc3(G:Gt)(a:V):=Qij G a
def Qng:En:=⟨_,_,func103,by kernel_rfl,_,X19 (s:=Qc3) fun G a m=>Xc (r:=v1 (Qc3 G) 0) rfl rfl (ts (v1 (Qij G) 0) (ts (v3 (Qik G) 4 5 0) (ts (v4 (Qil G) 5 7 8 0) (ts (v5 (Qim G) 7 9 8 10 0) (ts (v4 (Qin G) 8 10 11 0) (tr (tr seqD (seqQ (f:=v2 (Q5h G) 45 11))))))))) m⟩
def Qv(G:Gt)(a:V):=K a
def Q4l(G:Gt):Nat→V→V→V→V→M→R
 | 0,_,_,_,_,_=>none
 | i + 1,f,a,b,c,m=>(Q f (qr 12 a fun d=>P d fun e=>C G Q2 [b,(A 1),(A 4294967295)] fun g=>qi (L false 1 d e qj) (F (conv (.int .u32) g) fun h=>qp Qn4 [(.int .u32 0)] 1 4 e h fun j=>Z 12 a j (C G Q1k [b] fun l=>(Q4l G i) l a b c))) (Qv G c)) m
def Qfn(G:Gt)(a b c d:V):=Q4l G G.rds a b c d
def Qfm(G:Gt)(d c a b e:V):=Q d (Qfn G qf c a b) (D (qd e (E [110,101,120,116,45,104,111,112])) (C G Q92 [a] fun f=>Z 13 c f (Qv G b)) (C G Q5 [a,(A 130)] fun g=>Qv G b))
def Qfl(G:Gt)(e a b c d:V):=Q e (C G Qg [b,(E [97,100,100])] fun f=>Z 11 a f (C G Q3i [b] fun g=>Z 10 a g (Qv G c))) (B (qd d (E [112,114,101,112,101,110,100])) fun h=>Qfm G h a b c d)
def Qfk(G:Gt)(e a b c d:V):=Q e (C G Q2 [b,(A 0),(A 16777216)] fun f=>Z 9 a f (Qv G c)) (B (qd d (E [99,111,109,109,117,110,105,116,121])) fun g=>Qfl G g a b c d)
def Qfj(G:Gt)(e a b c d:V):=Q e (C G Q2 [b,(A 0),(A 16777216)] fun f=>Z 8 a f (Qv G c)) (B (qd d (E [116,97,103])) fun g=>Qfk G g a b c d)
def Qfi(G:Gt)(e a b c d:V):=Q e (C G Q2 [b,(A 0),(A 16777216)] fun f=>Z 7 a f (Qv G c)) (B (qd d (E [112,114,101,102,101,114,101,110,99,101])) fun g=>Qfj G g a b c d)
def Qfh(G:Gt)(a b c d:V):=B (qd a (E [109,101,116,114,105,99])) fun e=>Qfi G e b c d a
def Qfg(G:Gt)(a b c:V):=Qfh G a b c a
def Qff(G:Gt)(a b:V):=C G Qe [a] fun c=>Qfg G c b a
def Q72(G:Gt)(a b:V):=Qff G a b
def Qkf:En:=⟨_,_,func104,by kernel_rfl,_,Xeh (s:=(fun G c a b=>Q72 G a b)) fun G c a b m=>Xc (r:=v2 (Q72 G) 1 2) rfl rfl (ts (v2 (Qff G) 1 2) (ts (v3 (Qfg G) 7 2 1) (tr (tr (seqQ (f:=v1 (Qv G) 7)) (seqQ (f:=v4 (Qfh G) 11 2 1 7) (tr (Xj (seqQ (f:=v5 (Qfi G) 14 2 1 7 11) (tr (X40 (refQ) (seqQ (f:=v5 (Qfj G) 21 2 1 7 11) (tr (X40 (refQ) (seqQ (f:=v5 (Qfk G) 28 2 1 7 11) (tr (X40 (refQ) (seqQ (f:=v5 (Qfl G) 35 2 1 7 11) (tr (X40 (refQ) (seqQ (f:=v5 (Qfm G) 47 2 1 7 11) (tr (X40 (seqQ (f:=v4 (Qfn G) 8 2 1 7) (tr (Xj (X1r (fun i r m=>Q4l G i (r 8) (r 2) (r 1) (r 7) m) (fun _ _=>rfl) (fun i0=>fun r m=>by kernel_rfl))))) (refQ))))))))))))))))))))))) m⟩
def Qfp(G:Gt)(e b a:V):=Q e (B (Xe a (A 0)) fun f=>B (Xe a (A 0)) fun g=>C G Qly [b,f] fun h=>C G Q5z [h,g] fun j=>K j) (C G Q60 [a] fun d=>U d 0 fun l=>U d 1 fun n=>S Q2f Q38 fun c=>T 256 c l (Q n (C G Q7n [b,c] fun o=>C G Q58 [o,c] fun p=>K p) (C G Qkp [b,a] fun q=>C G Qgd [q,a] fun s=>K s)))
def Qhu(G:Gt)(a b:V):=N (lenK 0 a) fun c=>D (qg c (A 1)) (B (Xe a (A 0)) fun d=>B (bin .lss true true .int d (.int .u8 128)) fun e=>Qfp G e b a) (Qfp G qe b a)
def Qfo(G:Gt)(b a c:V):=Q b (K a) (Qhu G c a)
def Qht(G:Gt)(a b:V):=D (qd a (E [])) (Qfo G qf a b) (B (qd b (E [])) fun c=>Qfo G c a b)
def Qaw(G:Gt)(a b:V):=Qht G a b
def Qmv:En:=⟨_,_,func106,by kernel_rfl,_,X14 (s:=Qaw) fun G a b m=>Xc (r:=v2 (Qaw G) 0 1) rfl rfl (ts (v2 (Qht G) 0 1) (tr (tr (seqQ (f:=v2 (Qhu G) 1 0) (tr (tr seqD (seqQ (f:=v3 (Qfp G) 21 0 1))))) (seqQ (f:=v3 (Qfo G) 12 0 1))))) m⟩
def Q5a(G:Gt)(b a:V):=qc true 4 b fun c=>qq (Xd 4 a c) fun _=>fun m=>ob (ob (X8 true 4 a m) fun v=>ob (some []) fun l=>some (v :: l)) fun l=>some (X1i l,m)
def Q3h(G:Gt)(b a c:V):=C G Qg [b,(E [114,111,117,116,101,45,109,97,112])] fun d=>Q d (C G Qd [b] fun e=>qk 3 a e (Q5a G a c)) (Q5a G a c)
def Q5b(G:Gt)(d a b c:V):=Q d (qk 2 a (.int .u8 2) (C G Qg [b,(E [116,121,112,101])] fun e=>Q e (C G Q2 [b,(A 1),(A 2)] fun f=>F (conv (.int .u8) f) fun g=>qk 2 a g (Q3h G b a c)) (Q3h G b a c))) (Q3h G b a c)
def Q89(G:Gt)(a b c d:V):=C G Qg [a,(E [109,101,116,114,105,99])] fun e=>Q e (C G Q2 [a,(A 0),(A 16777216)] fun f=>qk 1 b f (Q5b G c b a d)) (Q5b G c b a d)
def Qbx(G:Gt)(c a d e f:V):=F (X5 Q1u [(.int .u8 0)] 1 3 [(0,(.int .u8 1)),(1,(.int .u8 2)),(2,c)]) fun g=>F (qy (E [99,111,110,110,101,99,116,101,100]) (E [115,116,97,116,105,99]) d) fun h=>C G Qy [a,h] fun j=>qx 1 g j fun l=>B (Xg Q67 [(0,1),(1,1),(2,1),(3,1)] [(0,l),(1,(A (-1)))]) fun n=>S Qdn Q67 fun b=>T 4 b n (Q89 G a b e f)
def Q4m(G:Gt)(a b c d:V):=S Qdn Q67 fun e=>Qbx G a b c d e
def Qi2:En:=⟨_,_,func108,by kernel_rfl,_,Xq2 (s:=(fun G a b c d=>Q4m G c a b d)) fun G a b c d m=>Xc (r:=v4 (Q4m G) 2 0 1 3) rfl rfl (ts (v5 (Qbx G) 2 0 1 3 8) (ts (v4 (Q89 G) 0 9 3 8) (ts (v4 (Q5b G) 3 9 0 8) (ts (v3 (Q3h G) 0 9 8) (ts (v2 (Q5a G) 9 8)))))) m⟩
def Q7x(G:Gt)(d:V):=S Q16 (Value.cells d).toList fun a=>H 0 a fun e=>O 1 a fun b=>P b fun c=>C G Q7b [e] fun f=>qi (L false 1 b c qj) (B (bin .add true true .str f (E [47])) fun g=>C G Q21 [c] fun h=>B (bin .add false true .str g h) fun j=>K j)
def Qla:En:=⟨_,_,func109,by kernel_rfl,_,X19 (s:=Q7x) fun G a m=>Xc (r:=v1 (Q7x G) 0) rfl rfl (fun r m=>by kernel_rfl) m⟩
end
end Go.Ab.Sh

set_option maxRecDepth 100000
namespace Go.Ab.Sh
open Go Go.Ab Go.Proofs Go.Proofs.Tryz
noncomputable section
def Q2l(G:Gt)(a b:V):=qo G Q7 [a,b]
def Q4a(G:Gt)(d e b f a c:V):=Q d (qa 4 e fun g=>qc true 6 f fun h=>Y 6 g b fun j=>T 6 j h (Q2l G a c)) (D (bin .lss true true .int b (A 0)) (Z 16 a qf (qv)) (Q2l G a c))
def Q49(G:Gt)(f a b c d e g:V):=Q f (qa 4 a fun h=>qc true 6 b fun j=>qp Qc9 Qgs 6 48 h j fun l=>Z 4 a l (Q2l G c d)) (D (bin .geq true true .int e (A 0)) (B (bin .neq true true .int g (A 0)) fun n=>Q4a G n a e b c d) (Q4a G qe a e b c d))
def Q1n(G:Gt)(a b c d e f:V):=D (qg a (A 0)) (B (bin .lss true true .int b (A 0)) fun g=>Q49 G g c d e f b a) (Q49 G qe c d e f b a)
def Q7a(G:Gt)(b h g a c d e f:V):=D (qg b (A 0)) (P h fun j=>C G Q2 [g,(A 1),(A 4294967295)] fun n=>qi (L false 1 h j qj) (F (conv (.int .u32) n) fun o=>B (Xg Qgs [(0,1),(1,1),(2,1),(3,1),(4,1),(5,1)] [(0,j),(1,o)]) fun p=>T 6 a p (Q1n G b c d a e f))) (D (qg b (A 1)) (C G Qd [g] fun l=>F (qt (E [105,110]) (E [111,117,116])) fun q=>C G Qy [g,q] fun s=>D (qg s (A 0)) (qp Q4 [(E [])] 1 16 f (E [105,110]) fun t=>qk 2 a l (Q1n G b c d a e t)) (qp Q4 [(E [])] 1 16 f (E [111,117,116]) fun u=>qk 3 a l (Q1n G b c d a e u))) (D (qg b (A 2)) (qk 4 a qf (Q1n G b c d a e f)) (qk 5 a qf (Q1n G b c d a e f))))
def Q4b(G:Gt)(a b e f g h j:V):=P a fun l=>F (za (E [97,115]) (E [114,111,117,116,101,45,109,97,112]) (E [99,108,105,101,110,116]) (E [110,101,120,116,45,104,111,112,45,115,101,108,102])) fun n=>Y 1 n b fun c=>P c fun d=>C G Q7b [l] fun o=>qi (L false 1 c d qj) (F (qy (E [110,101,105,103,104,98,111,114]) o d) fun p=>Q7a G b a e f g h j p)
def Qar(G:Gt)(a b c d e f g:V):=D (bin .geq true true .int a (A 0)) (qa 4 b fun h=>Y 6 h a fun j=>qc true 6 j fun l=>T 6 c l (Q4b G d e f c a b g)) (Q4b G d e f c a b g)
def Qaq(G:Gt)(a b c d e f:V):=S Qc9 Qgs fun g=>Qar G a b g c d e f
def Qap(G:Gt)(a b c d e:V):=F (za (E [97,115]) (E [114,111,117,116,101,45,109,97,112]) (E [99,108,105,101,110,116]) (E [110,101,120,116,45,104,111,112,45,115,101,108,102])) fun f=>C G Qy [a,f] fun g=>Qaq G b c d g a e
def Qao(G:Gt)(a b c d:V):=qa 4 a fun e=>C G Q1i [e,(.func (.func Q1m) ⟨[]⟩ ⟨[b]⟩)] fun f=>Qap G c f a b d
def Q3g(G:Gt)(a c d:V):=C G Qz [a] fun e=>S Qrq [(.int .u32 0)] fun b=>T 1 b e (Qao G c b a d)
def Qgz:En:=⟨_,_,func110,by kernel_rfl,_,Xeh (s:=(fun G a b c=>Q3g G b c a)) fun G a b c m=>Xc (r:=v3 (Q3g G) 1 2 0) rfl rfl (ts (v4 (Qao G) 2 6 1 0) (ts (v5 (Qap G) 1 7 2 6 0) (ts (v6 (Qaq G) 7 2 6 8 1 0) (ts (v7 (Qar G) 7 2 9 6 8 1 0) (ts (v7 (Q4b G) 6 8 1 9 7 2 0) (ts (v8 (Q7a G) 8 6 1 9 7 2 0 10) (ts (v6 (Q1n G) 8 7 2 9 0 10) (tr (tr (seqQ (f:=v2 (Q2l G) 0 10)) (Xj (seqQ (f:=v7 (Q49 G) 69 2 9 0 10 7 8) (tr (X40 (refQ) (seqQ (f:=v6 (Q4a G) 86 2 7 9 0 10))))))))))))))) m⟩
def Q5x(G:Gt)(a b:V):=C G Q1p [a,b] fun c=>K c
def Qj9:En:=⟨_,_,func123,by kernel_rfl,_,X14 (s:=Q5x) fun G a b m=>Xc (r:=v2 (Q5x G) 0 1) rfl rfl (fun r m=>by kernel_rfl) m⟩
def Q6c(G:Gt)(a:V):=Q a (K qf) (K qe)
def Q6b(G:Gt)(b a:V):=Q b (K qf) (D (bin .lss true true .int (.int .i32 57343) a) (B (bin .leq true true .int a (.int .i32 1114111)) fun c=>Q6c G c) (Q6c G qe))
def Qa7(G:Gt)(a:V):=D (bin .leq true true .int (.int .i32 0) a) (B (bin .lss true true .int a (.int .i32 55296)) fun b=>Q6b G b a) (Q6b G qe a)
def Q33(G:Gt)(a:V):=Qa7 G a
def Qgo:En:=⟨_,_,func124,by kernel_rfl,_,X19 (s:=Q33) fun G a m=>Xc (r:=v1 (Q33 G) 0) rfl rfl (ts (v1 (Qa7 G) 0) (tr (tr seqD (Xj (seqQ (f:=v2 (Q6b G) 3 0) (tr (X40 (refQ) (seqQ (f:=v1 (Q6c G) 10))))))))) m⟩
def Q5i(G:Gt)(a b:V):=K (.tuple ⟨[a,b]⟩)
def Qip(G:Gt)(a b c d:V):=D (bin .eql true false .iface b .nilIface) (D (bin .geq true true .int a (A 0)) (D (bin .leq false true .int a c) (C G Q21 [a] fun e=>B (bin .eql false true .str e d) fun f=>Q5i G a f) (Q5i G a qe)) (Q5i G a qe)) (Q5i G a qe)
def Qio(G:Gt)(a c:V):=C G Q3u [a] fun b=>U b 0 fun d=>U b 1 fun e=>Qip G d e c a
def Qc5(G:Gt)(a b:V):=Qio G a b
def Qnf:En:=⟨_,_,func127,by kernel_rfl,_,X14 (s:=Qc5) fun G a b m=>Xc (r:=v2 (Qc5 G) 0 1) rfl rfl (ts (v2 (Qio G) 0 1) (ts (v4 (Qip G) 6 7 1 0) (ts (v2 (Q5i G) 4 5)))) m⟩
def Q2e(G:Gt)(a:V):=C G Qdc [a] fun b=>B (bin .sub true true .int (A 32) b) fun c=>K c
def Qfx:En:=⟨_,_,func128,by kernel_rfl,_,X19 (s:=Q2e) fun G a m=>Xc (r:=v1 (Q2e G) 0) rfl rfl (fun r m=>by kernel_rfl) m⟩
def Qc4(G:Gt)(a:V):=B (bin .sub true true .int (A 32) a) fun b=>B (bin .shl true true .int (.int .u64 1) b) fun c=>B (bin .sub true true .int c (.int .u64 1)) fun d=>F (conv (.int .u32) d) fun e=>K e
def Qnh:En:=⟨_,_,func129,by kernel_rfl,_,X19 (s:=Qc4) fun G a m=>Xc (r:=v1 (Qc4 G) 0) rfl rfl (fun r m=>by kernel_rfl) m⟩
def Qe5(G:Gt)(a:V):=B (bin .shr true true .int a (.int .u64 16)) fun b=>F (conv (.int .i64) b) fun c=>C G Q21 [c] fun d=>B (bin .add true true .str d (E [58])) fun e=>B (bin .and true true .int a (.int .u32 65535)) fun f=>F (conv (.int .i64) f) fun g=>C G Q21 [g] fun h=>B (bin .add false true .str e h) fun j=>K j
def Qop:En:=⟨_,_,func131,by kernel_rfl,_,X19 (s:=Qe5) fun G a m=>Xc (r:=v1 (Qe5 G) 0) rfl rfl (fun r m=>by kernel_rfl) m⟩
def Q3n(G:Gt)(a:V):=K a
def Q2d(G:Gt):Nat→V→V→M→R
 | 0,_,_,_=>none
 | i + 1,a,b,m=>(N (lenK 0 a) fun c=>D (bin .gtr true true .int c (A 0)) (N (lenK 0 a) fun d=>B (bin .sub true true .int d (A 1)) fun e=>B (Xe a e) fun f=>C G Q2u [b,f] fun g=>D (un .not g) (Q3n G a) (N (lenK 0 a) fun h=>B (bin .sub true true .int h (A 1)) fun j=>B (Xw a none (some j)) fun l=>(Q2d G i) l b)) (Q3n G a)) m
def Qa6(G:Gt)(a b:V):=Q2d G G.rds a b
def Q32(G:Gt)(a b:V):=Qa6 G a b
def Qgp:En:=⟨_,_,func134,by kernel_rfl,_,X14 (s:=Q32) fun G a b m=>Xc (r:=v2 (Q32 G) 0 1) rfl rfl (ts (v2 (Qa6 G) 0 1) (tr (tr (seqQ (f:=v1 (Q3n G) 0)) (Xj (X1r (fun i r m=>Q2d G i (r 0) (r 1) m) (fun _ _=>rfl) (fun i0=>fun r m=>by kernel_rfl)))))) m⟩
def Q1y(G:Gt):=K (A (-1))
def Qo(G:Gt):Nat→V→V→V→V→M→R
 | 0,_,_,_,_,_=>none
 | i + 1,a,b,c,d,m=>(D (qh a b) (Y 6 d a fun e=>qc true 6 e fun f=>F (X52 G.tab c [f]) fun g=>Q g (K a) (B (X a (A 1)) fun h=>(Qo G i) h b c d)) (Q1y G)) m
def Q37(G:Gt)(a b c d:V):=Qo G G.rds a b c d
def Q36(G:Gt)(a b:V):=N (lenK 1 a) fun c=>Q37 G (A 0) c b a
def Q13(G:Gt)(a b:V):=Q36 G a b
def Q7z:En:=⟨_,_,func138,by kernel_rfl,_,X14 (s:=Q13) fun G a b m=>Xc (r:=v2 (Q13 G) 0 1) rfl rfl (ts (v2 (Q36 G) 0 1) (tr (tr (seqQ (f:=v0 (Q1y G))) (seqQ (f:=v4 (Q37 G) 8 7 1 0) (tr (Xj (X1r (fun i r m=>Qo G i (r 8) (r 7) (r 1) (r 0) m) (fun _ _=>rfl) (fun i0=>fun r m=>by kernel_rfl)))))))) m⟩
def Q2k(G:Gt)(a b:V):=S Qc9 (Value.cells a).toList fun c=>H 0 c fun d=>P b fun e=>B (bin .eql false true .int d e) fun f=>K f
def Qgh:En:=⟨_,_,func139,by kernel_rfl,_,X14 (s:=Q2k) fun G a b m=>Xc (r:=v2 (Q2k G) 0 1) rfl rfl (fun r m=>by kernel_rfl) m⟩
end
end Go.Ab.Sh
