/-
  Names of functions and types of the program. No conditions.
-/
import Derived.Test.YteognfejlpbmoaaGreatDoorAb5
import Derived.KernelRfl
import Derived.Test.YteognfejlpbmoaaGreatDoorProg
set_option linter.unusedSimpArgs false
set_option linter.unusedVariables false
set_option maxRecDepth 100000
namespace Go.Ab.Sh
open Go Go.Ab
noncomputable section
abbrev V := Value
abbrev M := Mem
abbrev R := Option Rs
abbrev J0 := M → R
abbrev J1 := V → J0
abbrev J2 := V → J1
abbrev J3 := V → J2
abbrev J4 := V → J3
abbrev J5 := V → J4
abbrev J6 := V → J5
abbrev J7 := V → J6
abbrev J8 := V → J7
abbrev J9 := V → J8
abbrev J10 := V → J9
abbrev v0 (f:J0):Env→J0:=fun r m=>f m
abbrev v1 (f:J1)(x:Nat):Env→J0:=fun r m=>f (r x) m
abbrev v2 (f:J2)(x y:Nat):Env→J0:=fun r m=>f (r x) (r y) m
abbrev v3 (f:J3)(x y z:Nat):Env→J0:=fun r m=>f (r x) (r y) (r z) m
abbrev v4 (f:J4)(x y z u:Nat):Env→J0:=fun r m=>f (r x) (r y) (r z) (r u) m
abbrev v5 (f:J5)(x y z u v:Nat):Env→J0:=fun r m=>f (r x) (r y) (r z) (r u) (r v) m
abbrev v6 (f:J6)(x y z u v w:Nat):Env→J0:=fun r m=>f (r x) (r y) (r z) (r u) (r v) (r w) m
abbrev v7 (f:J7)(x y z u v w a:Nat):Env→J0:=fun r m=>f (r x) (r y) (r z) (r u) (r v) (r w) (r a) m
abbrev v8 (f:J8)(x y z u v w a b:Nat):Env→J0:=fun r m=>f (r x) (r y) (r z) (r u) (r v) (r w) (r a) (r b) m
abbrev v9 (f:J9)(x y z u v w a b c:Nat):Env→J0:=fun r m=>f (r x) (r y) (r z) (r u) (r v) (r w) (r a) (r b) (r c) m
abbrev v10 (f:J10)(x y z u v w a b c d:Nat):Env→J0:=fun r m=>f (r x) (r y) (r z) (r u) (r v) (r w) (r a) (r b) (r c) (r d) m
abbrev En := Entry Go.Proofs.Tryz.prog
abbrev ef (G : Gt) (f : Func) (l : List V) (m : M) : R := evFn Go.Proofs.Tryz.prog G.tab G.rds (drOf Go.Proofs.Tryz.prog G.tab) f l m
theorem ts {P:Program}{g:Tab}{R:Nat}{dr:Xa8}{n:Nat}{x y:Code}{K:Ks}{C:Env→J0}(f:Env→J0)(h:∀ r m,ev P g R dr n y r m K=f r m:=by intro _ _;kernel_rfl)(k:∀ r m,ev P g R dr n x r m ⟨f,K.ex,K.rt⟩=C r m:=by intro _ _;kernel_rfl):∀ r m,ev P g R dr n (.seq x y) r m K=C r m:=tr (seqQ h) k
def Q44:Nat:=3
def Q2i:Nat:=4
def Q96:Nat:=5
def Q97:Nat:=6
def Q41:Nat:=7
def Qcs:Nat:=8
def Q98:Nat:=9
def Q10:Nat:=10
def Q1k:Nat:=11
def Q2x:Nat:=12
def Qdp:Nat:=13
def Q0:Nat:=15
def Q14:Nat:=16
def Q7k:Nat:=17
def Q5c:Nat:=18
def Q88:Nat:=19
def Q8w:Nat:=20
def Qg2:Nat:=21
def Q7l:Nat:=22
def Q4r:Nat:=23
def Q4w:Nat:=24
def Qe:Nat:=25
def Qd:Nat:=26
def Q2w:Nat:=27
def Q27:Nat:=28
def Q7c:Nat:=29
def Qdb:Nat:=30
def Qy:Nat:=31
def Q9m:Nat:=32
def Q2:Nat:=33
def Q9n:Nat:=34
def Q5:Nat:=35
def Q6k:Nat:=39
def Q3p:Nat:=40
def Q2b:Nat:=41
def Qc6:Nat:=42
def Q5z:Nat:=43
def Q60:Nat:=44
def Q58:Nat:=45
def Qgd:Nat:=46
def Q69:Nat:=47
def Qlb:Nat:=48
def Q3t:Nat:=49
def Q7:Nat:=50
def Qz:Nat:=51
def Q3y:Nat:=52
def Q6g:Nat:=53
def Q6f:Nat:=54
def Qg:Nat:=55
def Q92:Nat:=56
def Q8f:Nat:=57
def Qaa:Nat:=58
def Qt:Nat:=59
def Q2o:Nat:=60
def Q3i:Nat:=61
def Qn:Nat:=62
def Q2p:Nat:=63
def Q8e:Nat:=64
def Q3o:Nat:=65
def Q1c:Nat:=66
def Q1x:Nat:=67
def Q6i:Nat:=68
def Q7b:Nat:=69
def Qjx:Nat:=70
def Qde:Nat:=71
def Q8g:Nat:=72
def Q94:Nat:=73
def Qbg:Nat:=74
def Qdc:Nat:=83
def Q6j:Nat:=85
def Qoy:Nat:=86
def Q9o:Nat:=87
def Qgc:Nat:=88
def Q2u:Nat:=89
def Q1o:Nat:=92
def Q28:Nat:=93
def Qgl:Nat:=97
def Qjy:Nat:=98
def Qgm:Nat:=99
def Q8h:Nat:=100
def Q7j:Nat:=101
def Qc7:Nat:=102
def Qhn:Nat:=103
def Qc8:Nat:=104
def Q21:Nat:=105
def Qdl:Nat:=106
def Q3u:Nat:=107
def Q4g:Nat:=108
def Qa9:Nat:=109
def Q87:Nat:=110
def Q1p:Nat:=119
def Qia:Nat:=120
def Qko:Nat:=121
def Q8k:Nat:=123
def Q7m:Nat:=124
def Q7y:Nat:=127
def Q6a:Nat:=128
def Qfv:Nat:=129
def Q9:Nat:=130
def Qib:Nat:=131
def Qly:Nat:=133
def Q7n:Nat:=134
def Qkp:Nat:=135
def Q1i:Nat:=138
def Q1m:Nat:=139
def T_ : Nat := 0
def Qm:Nat:=3
def Q1u:Nat:=5
def Q4:Nat:=9
def Q17:Nat:=35
def Q8:Nat:=37
def Qn4:Nat:=43
def Qrq:Nat:=44
def Qma:Nat:=46
def Qkq:Nat:=54
def Q45:Nat:=57
def Qkr:Nat:=60
def Qag:Nat:=62
def Q5y:Nat:=66
def Qlk:Nat:=70
def Qlj:Nat:=79
def Q16:Nat:=81
def Qpk:Nat:=83
def Qlc:Nat:=85
def Qna:Nat:=87
def Qi5:Nat:=89
def Q6e:Nat:=110
def Qfz:Nat:=112
def Q3z:Nat:=115
def Qo6:Nat:=117
def Qrn:Nat:=121
def Qo8:Nat:=126
def Qc9:Nat:=128
def Q2f:Nat:=132
def Qdn:Nat:=168
def Qm8:Nat:=198
def Qf:Nat:=238
def Qi : List Value := [(.string ⟨#[]⟩), (.int .u8 0), (.slice none 0 0), (.slice none 0 0), (.slice none 0 0), (.slice none 0 0), (.slice none 0 0), (.slice none 0 0), (.slice none 0 0), (.slice none 0 0), (.slice none 0 0), (.slice none 0 0)]
def Q3 : List Value := [(.int .i64 0), (.int .i64 0)]
def Q93 : List Value := [(.string ⟨#[]⟩), (.slice none 0 0), (.bool false)]
def Qks : List Value := [(.slice none 0 0), (.int .i64 0), (.int .i64 0), (.int .i64 0), (.int .i64 0)]
def Q8x : List Value := [(.int .i64 0), (.slice none 0 0)]
def Qnd : List Value := [(.string ⟨#[]⟩), (.int .u8 0), (.slice none 0 0), (.slice none 0 0), (.slice none 0 0), (.slice none 0 0), (.slice none 0 0), (.slice none 0 0), (.slice none 0 0), (.slice none 0 0), (.slice none 0 0), (.slice none 0 0), .nilFunc, (.string ⟨#[]⟩), (.map none), (.bool false), (.bool false), (.int .i64 0)]
def Qdd : List Value := [(.string ⟨#[]⟩), (.int .u32 0), (.int .i64 0), (.int .u32 0), (.bool false), (.int .i64 0), (.int .i64 0)]
def Qgr : List Value := [(.bool false), (.int .i64 0), (.int .u32 0), (.int .i64 0), (.int .u32 0), (.int .i64 0), (.int .u32 0), (.int .u32 0), (.int .u32 0), (.int .u32 0)]
def Qgi : List Value := [(.string ⟨#[]⟩), (.slice none 0 0)]
def Qh3 : List Value := [(.string ⟨#[]⟩), (.string ⟨#[]⟩), (.int .u32 0), (.int .i64 0), (.bool false), (.string ⟨#[]⟩), (.string ⟨#[]⟩), (.int .u8 0), (.int .i64 0), (.int .i64 0), (.bool false)]
def Qf6 : List Value := [(.string ⟨#[]⟩), (.int .i64 0), (.int .i64 0)]
def Q8d : List Value := [(.string ⟨#[]⟩), (.slice none 0 0)]
def Q34 : List Value := [(.bool false), (.int .u32 0), (.int .i64 0), (.int .i64 0), (.int .i64 0)]
def Qay : List Value := [(.string ⟨#[]⟩), (.slice none 0 0)]
def Qgj : List Value := [(.int .i64 0), (.int .u8 0), (.string ⟨#[]⟩), (.string ⟨#[]⟩), (.int .i64 0), (.int .i64 0), (.int .i64 0), (.int .i64 0), (.int .i64 0), (.int .i64 0), (.slice none 0 0), (.bool false), (.slice none 0 0), (.int .u32 0), (.int .i64 0)]
def Qgs : List Value := [(.int .u32 0), (.int .u32 0), (.string ⟨#[]⟩), (.string ⟨#[]⟩), (.bool false), (.bool false)]
def Qk1 : List Value := [(.string ⟨#[]⟩), (.int .u32 0), (.int .u32 0), (.slice none 0 0), (.slice none 0 0), (.slice none 0 0)]
def Q38 : List Value := [(.bool false), (.bool false), (.bool false), (.bool false), (.bool false), (.bool false), (.bool false), (.bool false), (.bool false), (.bool false), (.bool false), (.bool false), (.bool false), (.bool false), (.bool false), (.bool false), (.bool false), (.bool false), (.bool false), (.bool false), (.bool false), (.bool false), (.bool false), (.bool false), (.bool false), (.bool false), (.bool false), (.bool false), (.bool false), (.bool false), (.bool false), (.bool false), (.bool false), (.bool false), (.bool false), (.bool false), (.bool false), (.bool false), (.bool false), (.bool false), (.bool false), (.bool false), (.bool false), (.bool false), (.bool false), (.bool false), (.bool false), (.bool false), (.bool false), (.bool false), (.bool false), (.bool false), (.bool false), (.bool false), (.bool false), (.bool false), (.bool false), (.bool false), (.bool false), (.bool false), (.bool false), (.bool false), (.bool false), (.bool false), (.bool false), (.bool false), (.bool false), (.bool false), (.bool false), (.bool false), (.bool false), (.bool false), (.bool false), (.bool false), (.bool false), (.bool false), (.bool false), (.bool false), (.bool false), (.bool false), (.bool false), (.bool false), (.bool false), (.bool false), (.bool false), (.bool false), (.bool false), (.bool false), (.bool false), (.bool false), (.bool false), (.bool false), (.bool false), (.bool false), (.bool false), (.bool false), (.bool false), (.bool false), (.bool false), (.bool false), (.bool false), (.bool false), (.bool false), (.bool false), (.bool false), (.bool false), (.bool false), (.bool false), (.bool false), (.bool false), (.bool false), (.bool false), (.bool false), (.bool false), (.bool false), (.bool false), (.bool false), (.bool false), (.bool false), (.bool false), (.bool false), (.bool false), (.bool false), (.bool false), (.bool false), (.bool false), (.bool false), (.bool false), (.bool false), (.bool false), (.bool false), (.bool false), (.bool false), (.bool false), (.bool false), (.bool false), (.bool false), (.bool false), (.bool false), (.bool false), (.bool false), (.bool false), (.bool false), (.bool false), (.bool false), (.bool false), (.bool false), (.bool false), (.bool false), (.bool false), (.bool false), (.bool false), (.bool false), (.bool false), (.bool false), (.bool false), (.bool false), (.bool false), (.bool false), (.bool false), (.bool false), (.bool false), (.bool false), (.bool false), (.bool false), (.bool false), (.bool false), (.bool false), (.bool false), (.bool false), (.bool false), (.bool false), (.bool false), (.bool false), (.bool false), (.bool false), (.bool false), (.bool false), (.bool false), (.bool false), (.bool false), (.bool false), (.bool false), (.bool false), (.bool false), (.bool false), (.bool false), (.bool false), (.bool false), (.bool false), (.bool false), (.bool false), (.bool false), (.bool false), (.bool false), (.bool false), (.bool false), (.bool false), (.bool false), (.bool false), (.bool false), (.bool false), (.bool false), (.bool false), (.bool false), (.bool false), (.bool false), (.bool false), (.bool false), (.bool false), (.bool false), (.bool false), (.bool false), (.bool false), (.bool false), (.bool false), (.bool false), (.bool false), (.bool false), (.bool false), (.bool false), (.bool false), (.bool false), (.bool false), (.bool false), (.bool false), (.bool false), (.bool false), (.bool false), (.bool false), (.bool false), (.bool false), (.bool false), (.bool false), (.bool false), (.bool false), (.bool false), (.bool false), (.bool false), (.bool false), (.bool false), (.bool false), (.bool false), (.bool false), (.bool false), (.bool false), (.bool false), (.bool false), (.bool false), (.bool false), (.bool false), (.bool false), (.bool false), (.bool false), (.bool false), (.bool false)]
def Qi6 : List Value := [(.bool false), (.slice none 0 0)]
def Qhl : List Value := [(.bool false), (.string ⟨#[]⟩), (.int .u32 0)]
def Qn2 : List Value := [(.string ⟨#[]⟩), (.int .u32 0), (.slice none 0 0)]
def Qq : List Value := [(.int .u32 0), (.int .i64 0)]
def Qm9 : List Value := [(.string ⟨#[]⟩), (.string ⟨#[]⟩), (.string ⟨#[]⟩), (.string ⟨#[]⟩)]
def Q67 : List Value := [(.int .u8 0), (.int .i64 0), (.int .u8 0), (.string ⟨#[]⟩)]
def Q8y : List Value := [(.int .u32 0), (.int .u32 0)]

def A (n : Int) : Value := .int .i64 n
def E (l : List UInt8) : Value := .string ⟨l.toArray⟩
def qf : Value := .bool true
def qe : Value := .bool false
def zc : Value := .tuple ⟨[]⟩
def K (v : Value) : Mem → Option Rs := fun m => some (v, m)
def Q (v : Value) (a b : Mem → Option Rs) : Mem → Option Rs := fun m => brb v (a m) (b m)
def qj : Mem → Bool := fun _ => true
def L (b : Bool) (n : Nat) (p v : Value) (r : Mem → Bool) : Mem → Bool := fun m => again (pur (X8 b n p m) m) v && r m
def zd (f : Mem → Option Value) (v : Value) (r : Mem → Bool) : Mem → Bool := fun m => again (pur (f m) m) v && r m
def qi (r : Mem → Bool) (a : Mem → Option Rs) : Mem → Option Rs := fun m => ckB (r m) (a m)
def B (o : Option Value) (k : Value → Mem → Option Rs) : Mem → Option Rs := fun m => bp (pur o m) k
def D (o : Option Value) (a b : Mem → Option Rs) : Mem → Option Rs := fun m => bp (pur o m) fun x m => brb x (a m) (b m)
def N (f : Mem → Option Value) (k : Value → Mem → Option Rs) : Mem → Option Rs := fun m => bp (pur (f m) m) k
def qc (b : Bool) (n : Nat) (p : Value) (k : Value → Mem → Option Rs) : Mem → Option Rs := fun m => bp (pur (X8 b n p m) m) k
def P (p : Value) (k : Value → Mem → Option Rs) : Mem → Option Rs := fun m => bp (pur (X8 false 1 p m) m) k
def O (n : Nat) (p : Value) (k : Value → Mem → Option Rs) : Mem → Option Rs := fun m => bp (pur (Xx n p) m) k
def qz (b : Bool) (w n : Nat) (p : Value) (k : Value → Mem → Option Rs) : Mem → Option Rs := fun m => bp (pur (Xx n p) m) fun x m => bp (pur (X8 b w x m) m) k
def H (n : Nat) (p : Value) (k : Value → Mem → Option Rs) : Mem → Option Rs := fun m => bp (pur (Xx n p) m) fun x m => bp (pur (X8 false 1 x m) m) k
def qr (n : Nat) (p : Value) (k : Value → Mem → Option Rs) : Mem → Option Rs := fun m => bp (pur (X21 p) m) fun x m => bp (pur (Xx n x) m) k
def qa (n : Nat) (p : Value) (k : Value → Mem → Option Rs) : Mem → Option Rs := fun m => bp (pur (X21 p) m) fun x m => bp (pur (Xx n x) m) fun y m => bp (pur (X8 false 1 y m) m) k
def T (n : Nat) (p v : Value) (k : Mem → Option Rs) : Mem → Option Rs := fun m => bp (unt (Xd n p v m)) fun _ m => k m
def Z (n : Nat) (p v : Value) (k : Mem → Option Rs) : Mem → Option Rs := fun m => bp (pur (X21 p) m) fun x m => bp (pur (Xx n x) m) fun y m => bp (unt (Xd 1 y v m)) fun _ m => k m
def qk (n : Nat) (p v : Value) (k : Mem → Option Rs) : Mem → Option Rs := fun m => bp (pur (Xx n p) m) fun y m => bp (unt (Xd 1 y v m)) fun _ m => k m
def qv : Mem → Option Rs := fun m => some (.tuple ⟨[]⟩, m)
def qo (G : Gt) (f : Nat) (l : List Value) : Mem → Option Rs := fun m => bp (G.tab f l m) fun _ m => some (.tuple ⟨[]⟩, m)
def qp (t : Nat) (z : List Value) (n w : Nat) (s x : Value) (k : Value → Mem → Option Rs) : Mem → Option Rs := fun m => bp (X5 t z n 1 [(0, x)] m) fun y m => bp (apS t n w s y m) k
def qq (f : Mem → Option Mem) (k : Value → Mem → Option Rs) : Mem → Option Rs := fun m => bp (unt (f m)) k
def S (t : Nat) (z : List Value) (k : Value → Mem → Option Rs) : Mem → Option Rs := fun m => bp (some (aNew t z m)) k
def F (f : Mem → Option Rs) (k : Value → Mem → Option Rs) : Mem → Option Rs := fun m => bp (f m) k
def C (G : Gt) (f : Nat) (l : List Value) (k : Value → Mem → Option Rs) : Mem → Option Rs := fun m => bp (G.tab f l m) k
def X (x y : Value) : Option Value := bin .add true true .int x y
def qh (x y : Value) : Option Value := bin .lss false true .int x y
def qd (x y : Value) : Option Value := bin .eql true true .str x y
def qg (x y : Value) : Option Value := bin .eql true true .int x y
def U (p : Value) (n : Nat) (k : Value → Mem → Option Rs) : Mem → Option Rs := fun m => bp (pur (X3m p n) m) k
def Y (n : Nat) (s i : Value) (k : Value → Mem → Option Rs) : Mem → Option Rs := fun m => bp (pur (Xa n s i) m) k
def qx (n : Nat) (s i : Value) (k : Value → Mem → Option Rs) : Mem → Option Rs := fun m => bp (pur (Xa n s i) m) fun x m => bp (pur (X8 false 1 x m) m) k
def qw (a : Value) : Mem → Option (Value × Mem) := fun m => X5 Q4 [.string ⟨#[]⟩] 1 1 [(0, a)] m
def qt (a b : Value) : Mem → Option (Value × Mem) := fun m => X5 Q4 [.string ⟨#[]⟩] 1 2 [(0, a), (1, b)] m
def qy (a b c : Value) : Mem → Option (Value × Mem) := fun m => X5 Q4 [.string ⟨#[]⟩] 1 3 [(0, a), (1, b), (2, c)] m
def za (a b c d : Value) : Mem → Option (Value × Mem) := fun m => X5 Q4 [.string ⟨#[]⟩] 1 4 [(0, a), (1, b), (2, c), (3, d)] m
def zf (a b c d e : Value) : Mem → Option (Value × Mem) := fun m => X5 Q4 [.string ⟨#[]⟩] 1 5 [(0, a), (1, b), (2, c), (3, d), (4, e)] m
def zg (a b c d e f : Value) : Mem → Option (Value × Mem) := fun m => X5 Q4 [.string ⟨#[]⟩] 1 6 [(0, a), (1, b), (2, c), (3, d), (4, e), (5, f)] m
def zb (f : Mem → Value × Mem) (k : Value → Mem → Option Rs) : Mem → Option Rs := fun m => bp (some (f m)) k
end
end Go.Ab.Sh
