/-
  Names of functions and types of the program. No conditions.
-/
import Derived.Test.YtodhdplpcelokaaGreatDoorAb5
import Derived.KernelRfl
import Derived.Test.YtodhdplpcelokaaGreatDoorProg
set_option linter.all false
set_option maxRecDepth 100000
namespace Go.Ab.Sh
open Go Go.Ab
noncomputable section
abbrev V := Value
abbrev M := Mem
abbrev R := Option Rs
abbrev J0 := M → R
abbrev J1 := V → J0
abbrev J2 := V → J1
abbrev J3 := V → J2
abbrev J4 := V → J3
abbrev J5 := V → J4
abbrev J6 := V → J5
abbrev J7 := V → J6
abbrev J8 := V → J7
abbrev J9 := V → J8
abbrev v0(f:J0):Env→J0:=λr m=>f m
abbrev v1(f:J1)(x:Nat):Env→J0:=λr m=>f (r x) m
abbrev v2(f:J2)(x y:Nat):Env→J0:=λr m=>f (r x) (r y) m
abbrev v3(f:J3)(x y z:Nat):Env→J0:=λr m=>f (r x) (r y) (r z) m
abbrev v4(f:J4)(x y z u:Nat):Env→J0:=λr m=>f (r x) (r y) (r z) (r u) m
abbrev v5(f:J5)(x y z u v:Nat):Env→J0:=λr m=>f (r x) (r y) (r z) (r u) (r v) m
abbrev v6(f:J6)(x y z u v w:Nat):Env→J0:=λr m=>f (r x) (r y) (r z) (r u) (r v) (r w) m
abbrev v7(f:J7)(x y z u v w a:Nat):Env→J0:=λr m=>f (r x) (r y) (r z) (r u) (r v) (r w) (r a) m
abbrev v8(f:J8)(x y z u v w a b:Nat):Env→J0:=λr m=>f (r x) (r y) (r z) (r u) (r v) (r w) (r a) (r b) m
abbrev v9(f:J9)(x y z u v w a b c:Nat):Env→J0:=λr m=>f (r x) (r y) (r z) (r u) (r v) (r w) (r a) (r b) (r c) m
abbrev En:=Entry Go.Proofs.Tryz.prog
abbrev ef(G:Gt)(f:Func)(l:List V)(m:M):R:=np Go.Proofs.Tryz.prog G.dN G.bx (px Go.Proofs.Tryz.prog G.dN) f l m
theorem ts{P:Program}{g:fo}{R:Nat}{a:rz}{n:Nat}{x y:Code}{K:Ks}{C:Env→J0}(f:Env→J0)(h:∀r m,ev P g R a n y r m K=f r m:=by intro _ _;kernel_rfl)(k:∀r m,ev P g R a n x r m ⟨f,K.ex,K.rt⟩=C r m:=by intro _ _;kernel_rfl):∀r m,ev P g R a n (.seq x y) r m K=C r m:=tr (aJ h) k
def Hj:Nat:=3
def JN:Nat:=4
def PZ:Nat:=5
def DG:Nat:=6
def P9:Nat:=7
def Ka:Nat:=8
def I9:Nat:=9
def tX:Nat:=10
def xr:Nat:=11
def NV:Nat:=12
def Ec:Nat:=13
def HV:Nat:=15
def NZ:Nat:=16
def N4:Nat:=17
def zR:Nat:=18
def Qf:Nat:=19
def Q3:Nat:=20
def Pt:Nat:=21
def Qi:Nat:=22
def oZ:Nat:=23
def Ov:Nat:=24
def N5:Nat:=25
def OS:Nat:=26
def O7:Nat:=27
def Kb:Nat:=28
def D6:Nat:=29
def AE:Nat:=30
def uc:Nat:=31
def Qr:Nat:=32
def Qo:Nat:=33
def zW:Nat:=34
def vo:Nat:=35
def HP:Nat:=36
def Sf:Nat:=37
def nK:Nat:=38
def Pq:Nat:=39
def Q4:Nat:=40
def Ps:Nat:=41
def Qd:Nat:=42
def HU:Nat:=46
def PY:Nat:=47
def Qa:Nat:=48
def tT:Nat:=49
def Qs:Nat:=50
def Ou:Nat:=51
def Q5:Nat:=52
def Q1:Nat:=53
def N3:Nat:=54
def C4:Nat:=55
def N6:Nat:=56
def Oa:Nat:=57
def Oq:Nat:=58
def Ql:Nat:=59
def Qj:Nat:=60
def CG:Nat:=61
def Oo:Nat:=62
def oX:Nat:=63
def Df:Nat:=64
def CP:Nat:=65
def Rv:Nat:=66
def O8:Nat:=67
def HA:Nat:=68
def Hs:Nat:=69
def Qo0:Nat:=70
def Ob:Nat:=71
def Um:Nat:=72
def xH:Nat:=73
def Qg:Nat:=74
def oY:Nat:=75
def Aq:Nat:=76
def DW:Nat:=77
def DT:Nat:=78
def Qp:Nat:=79
def I4:Nat:=80
def Ij:Nat:=81
def PW:Nat:=82
def NL:Nat:=83
def DJ:Nat:=84
def HR:Nat:=85
def NK:Nat:=86
def DK:Nat:=87
def Iu:Nat:=88
def N0:Nat:=89
def NP:Nat:=90
def C6:Nat:=91
def DR:Nat:=92
def AM:Nat:=93
def TY:Nat:=94
def JS:Nat:=95
def Ik:Nat:=96
def I2:Nat:=97
def QS:Nat:=98
def Si:Nat:=107
def D0:Nat:=109
def QV:Nat:=110
def C3:Nat:=111
def Q6:Nat:=112
def G6:Nat:=113
def N2:Nat:=114
def GQ:Nat:=115
def CT:Nat:=116
def G1:Nat:=117
def GP:Nat:=118
def Ow:Nat:=119
def H0:Nat:=120
def GY:Nat:=121
def N1:Nat:=122
def zX:Nat:=123
def XfB:Nat:=124
def D9:Nat:=125
def Tx:Nat:=126
def GF:Nat:=127
def zT:Nat:=130
def DL:Nat:=131
def JQ:Nat:=135
def TX:Nat:=136
def JO:Nat:=137
def Ip:Nat:=138
def HW:Nat:=139
def Rt:Nat:=140
def TC:Nat:=141
def Rr:Nat:=142
def qV:Nat:=143
def Tz:Nat:=144
def vw:Nat:=145
def Dl:Nat:=146
def Sg:Nat:=147
def OT:Nat:=148
def HY:Nat:=154
def Od:Nat:=155
def PX:Nat:=156
def QT:Nat:=157
def Ar:Nat:=158
def IG:Nat:=159
def CF:Nat:=163
def Qte:Nat:=164
def Qwb:Nat:=165
def IB:Nat:=167
def Oz:Nat:=168
def JI:Nat:=171
def Oc:Nat:=172
def JG:Nat:=173
def Qv:Nat:=174
def TF:Nat:=175
def Qxj:Nat:=177
def Ox:Nat:=178
def Qwc:Nat:=179
def Gy:Nat:=182
def zQ:Nat:=183
def II:Nat:=185
def QU:Nat:=186
def T_:Nat:=0
def cS:Nat:=3
def fJ:Nat:=5
def Qc:Nat:=9
def iH:Nat:=33
def Q7:Nat:=35
def Qzl:Nat:=49
def AS:Nat:=52
def Uc:Nat:=55
def Kj:Nat:=57
def su:Nat:=62
def sE:Nat:=65
def XfC:Nat:=66
def nL:Nat:=68
def Qlx:Nat:=76
def ub:Nat:=80
def JB:Nat:=82
def D5:Nat:=83
def Ek:Nat:=92
def Kh:Nat:=96
def Qe:Nat:=98
def Uu:Nat:=100
def AR:Nat:=102
def Kf:Nat:=104
def AP:Nat:=106
def xN:Nat:=111
def Ut:Nat:=133
def pY:Nat:=143
def vv:Nat:=150
def ud:Nat:=152
def vt:Nat:=155
def AO:Nat:=157
def sC:Nat:=161
def xE:Nat:=165
def Ur:Nat:=228
def Qz:Nat:=268
def Q8:List V:=[(.string ⟨#[]⟩),(.int .u8 0),(.slice none 0 0),(.slice none 0 0),(.slice none 0 0),(.slice none 0 0),(.slice none 0 0),(.slice none 0 0),(.slice none 0 0),(.slice none 0 0),(.slice none 0 0),(.slice none 0 0)]
def Q2:List V:=[(.int .i64 0),(.int .i64 0)]
def sq:List V:=[(.string ⟨#[]⟩),(.slice none 0 0),(.bool false)]
def Ub:List V:=[(.slice none 0 0),(.int .i64 0),(.int .i64 0),(.int .i64 0),(.int .i64 0)]
def ue:List V:=[(.int .i64 0),(.slice none 0 0)]
def Qzk:List V:=[(.string ⟨#[]⟩),(.int .u8 0),(.slice none 0 0),(.slice none 0 0),(.slice none 0 0),(.slice none 0 0),(.slice none 0 0),(.slice none 0 0),(.slice none 0 0),(.slice none 0 0),(.slice none 0 0),(.slice none 0 0),.nilFunc,(.string ⟨#[]⟩),(.map none),(.bool false),(.bool false),(.int .i64 0)]
def Tu:List V:=[(.slice none 0 0),(.int .i64 0),(.int .i64 0),(.int .i64 0),(.int .i64 0)]
def Qsp:List V:=[(.string ⟨#[]⟩),(.int .u8 0),(.slice none 0 0),(.slice none 0 0),(.slice none 0 0),(.slice none 0 0),(.slice none 0 0),(.slice none 0 0),(.slice none 0 0),(.slice none 0 0),(.slice none 0 0),(.slice none 0 0),(.string ⟨#[]⟩),(.int .i64 0),(.int .i64 0),(.slice none 0 0),(.bool false),(.bool false)]
def sr:List V:=[(.string ⟨#[]⟩),(.int .u32 0),(.int .i64 0),(.int .u32 0),(.bool false),(.int .i64 0),(.int .i64 0)]
def sy:List V:=[(.bool false),(.int .i64 0),(.int .u32 0),(.int .i64 0),(.int .u32 0),(.int .i64 0),(.int .u32 0),(.int .u32 0),(.int .u32 0),(.int .u32 0)]
def vy:List V:=[(.string ⟨#[]⟩),(.slice none 0 0)]
def vA:List V:=[(.string ⟨#[]⟩),(.string ⟨#[]⟩),(.int .u32 0),(.int .i64 0),(.bool false),(.string ⟨#[]⟩),(.string ⟨#[]⟩),(.int .u8 0),(.int .i64 0),(.int .i64 0),(.bool false)]
def xM:List V:=[(.string ⟨#[]⟩),(.int .i64 0),(.int .i64 0)]
def ua:List V:=[(.int .i64 0),(.slice none 0 0)]
def AQ:List V:=[(.string ⟨#[]⟩),(.int .u32 0),(.slice none 0 0)]
def sD:List V:=[(.string ⟨#[]⟩),(.int .u32 0),(.int .u32 0),(.slice none 0 0),(.slice none 0 0),(.slice none 0 0)]
def ku:List V:=[(.int .u8 0),(.int .i64 0),(.int .u8 0),(.string ⟨#[]⟩)]
def xD:List V:=[(.string ⟨#[]⟩),(.int .i64 0),(.int .i64 0)]
def qW:List V:=[(.int .i64 0),(.int .u8 0),(.string ⟨#[]⟩),(.string ⟨#[]⟩),(.int .i64 0),(.int .i64 0),(.int .i64 0),(.int .i64 0),(.int .i64 0),(.int .i64 0),(.slice none 0 0),(.bool false),(.slice none 0 0),(.int .u32 0),(.int .i64 0)]
def tZ:List V:=[(.string ⟨#[]⟩),(.slice none 0 0)]
def mI:List V:=[(.bool false),(.int .u32 0),(.int .i64 0),(.int .i64 0),(.int .i64 0)]
def vu:List V:=[(.string ⟨#[]⟩),(.slice none 0 0)]
def sx:List V:=[(.int .u32 0),(.int .u32 0),(.string ⟨#[]⟩),(.string ⟨#[]⟩),(.bool false),(.bool false)]
def xF:List V:=[(.bool false),(.bool false),(.bool false),(.bool false),(.bool false),(.bool false),(.bool false),(.bool false),(.bool false),(.bool false),(.bool false),(.bool false),(.bool false),(.bool false),(.bool false),(.bool false),(.bool false),(.bool false),(.bool false),(.bool false),(.bool false),(.bool false),(.bool false),(.bool false),(.bool false),(.bool false),(.bool false),(.bool false),(.bool false),(.bool false),(.bool false),(.bool false),(.bool false),(.bool false),(.bool false),(.bool false),(.bool false),(.bool false),(.bool false),(.bool false),(.bool false),(.bool false),(.bool false),(.bool false),(.bool false),(.bool false),(.bool false),(.bool false),(.bool false),(.bool false),(.bool false),(.bool false),(.bool false),(.bool false),(.bool false),(.bool false),(.bool false),(.bool false),(.bool false),(.bool false),(.bool false),(.bool false),(.bool false),(.bool false),(.bool false),(.bool false),(.bool false),(.bool false),(.bool false),(.bool false),(.bool false),(.bool false),(.bool false),(.bool false),(.bool false),(.bool false),(.bool false),(.bool false),(.bool false),(.bool false),(.bool false),(.bool false),(.bool false),(.bool false),(.bool false),(.bool false),(.bool false),(.bool false),(.bool false),(.bool false),(.bool false),(.bool false),(.bool false),(.bool false),(.bool false),(.bool false),(.bool false),(.bool false),(.bool false),(.bool false),(.bool false),(.bool false),(.bool false),(.bool false),(.bool false),(.bool false),(.bool false),(.bool false),(.bool false),(.bool false),(.bool false),(.bool false),(.bool false),(.bool false),(.bool false),(.bool false),(.bool false),(.bool false),(.bool false),(.bool false),(.bool false),(.bool false),(.bool false),(.bool false),(.bool false),(.bool false),(.bool false),(.bool false),(.bool false),(.bool false),(.bool false),(.bool false),(.bool false),(.bool false),(.bool false),(.bool false),(.bool false),(.bool false),(.bool false),(.bool false),(.bool false),(.bool false),(.bool false),(.bool false),(.bool false),(.bool false),(.bool false),(.bool false),(.bool false),(.bool false),(.bool false),(.bool false),(.bool false),(.bool false),(.bool false),(.bool false),(.bool false),(.bool false),(.bool false),(.bool false),(.bool false),(.bool false),(.bool false),(.bool false),(.bool false),(.bool false),(.bool false),(.bool false),(.bool false),(.bool false),(.bool false),(.bool false),(.bool false),(.bool false),(.bool false),(.bool false),(.bool false),(.bool false),(.bool false),(.bool false),(.bool false),(.bool false),(.bool false),(.bool false),(.bool false),(.bool false),(.bool false),(.bool false),(.bool false),(.bool false),(.bool false),(.bool false),(.bool false),(.bool false),(.bool false),(.bool false),(.bool false),(.bool false),(.bool false),(.bool false),(.bool false),(.bool false),(.bool false),(.bool false),(.bool false),(.bool false),(.bool false),(.bool false),(.bool false),(.bool false),(.bool false),(.bool false),(.bool false),(.bool false),(.bool false),(.bool false),(.bool false),(.bool false),(.bool false),(.bool false),(.bool false),(.bool false),(.bool false),(.bool false),(.bool false),(.bool false),(.bool false),(.bool false),(.bool false),(.bool false),(.bool false),(.bool false),(.bool false),(.bool false),(.bool false),(.bool false),(.bool false),(.bool false),(.bool false),(.bool false),(.bool false),(.bool false),(.bool false),(.bool false),(.bool false),(.bool false),(.bool false),(.bool false),(.bool false),(.bool false),(.bool false),(.bool false),(.bool false),(.bool false),(.bool false),(.bool false)]
def ss:List V:=[(.bool false),(.slice none 0 0)]
def vx:List V:=[(.bool false),(.string ⟨#[]⟩),(.int .u32 0)]
def Q9:List V:=[(.int .u32 0),(.int .i64 0)]
def Us:List V:=[(.string ⟨#[]⟩),(.string ⟨#[]⟩),(.string ⟨#[]⟩),(.string ⟨#[]⟩)]
def mJ:List V:=[(.int .u32 0),(.int .u32 0)]

def A(n:Int):V:=.int .i64 n
def D(l:List UInt8):V:=.string ⟨l.toArray⟩
def jh:V:=.bool true
def jj:V:=.bool false
def K(v:V):J0:=λm=>some (v,m)
def L(v:V)(a b:J0):J0:=λm=>ke v (a m) (b m)
def jo:M→Bool:=λ_=>true
def O(b:Bool)(n:Nat)(p v:V)(r:M→Bool):M→Bool:=λm=>again (aI (X9 b n p m) m) v&&r m
def jn(r:M→Bool)(a:J0):J0:=λm=>tb (r m) (a m)
def B(o:Option V)(k:J1):J0:=λm=>bp (aI o m) k
def E(o:Option V)(a b:J0):J0:=λm=>bp (aI o m) λx m=>ke x (a m) (b m)
def N(f:M→Option V)(k:J1):J0:=λm=>bp (aI (f m) m) k
def jd(b:Bool)(n:Nat)(p:V)(k:J1):J0:=λm=>bp (aI (X9 b n p m) m) k
def X(p:V)(k:J1):J0:=λm=>bp (aI (X9 false 1 p m) m) k
def T(n:Nat)(p:V)(k:J1):J0:=λm=>bp (aI (Xm n p) m) k
def jv(b:Bool)(w n:Nat)(p:V)(k:J1):J0:=λm=>bp (aI (Xm n p) m) λx m=>bp (aI (X9 b w x m) m) k
def F(n:Nat)(p:V)(k:J1):J0:=λm=>bp (aI (Xm n p) m) λx m=>bp (aI (X9 false 1 x m) m) k
def je(n:Nat)(p:V)(k:J1):J0:=λm=>bp (aI (Xu p) m) λx m=>bp (aI (Xm n x) m) k
def jc(n:Nat)(p:V)(k:J1):J0:=λm=>bp (aI (Xu p) m) λx m=>bp (aI (Xm n x) m) λy m=>bp (aI (X9 false 1 y m) m) k
def Y(n:Nat)(p v:V)(k:J0):J0:=λm=>bp (bP (Xe n p v m)) λ_ m=>k m
def Z(n:Nat)(p v:V)(k:J0):J0:=λm=>bp (aI (Xu p) m) λx m=>bp (aI (Xm n x) m) λy m=>bp (bP (Xe 1 y v m)) λ_ m=>k m
def jf(n:Nat)(p v:V)(k:J0):J0:=λm=>bp (aI (Xm n p) m) λy m=>bp (bP (Xe 1 y v m)) λ_ m=>k m
def jq:J0:=λm=>some (.tuple ⟨[]⟩,m)
def jp(G:Gt)(f:Nat)(l:List V):J0:=λm=>bp (G.dN f l m) λ_ m=>some (.tuple ⟨[]⟩,m)
def jm(t:Nat)(z:List V)(n w:Nat)(s x:V)(k:J1):J0:=λm=>bp (X8 t z n 1 [(0,x)] m) λy m=>bp (dn t n w s y m) k
def jl(f:M→Option M)(k:J1):J0:=λm=>bp (bP (f m)) k
def U(t:Nat)(z:List V)(k:J1):J0:=λm=>bp (some (kY t z m)) k
def H(f:J0)(k:J1):J0:=λm=>bp (f m) k
def C(G:Gt)(f:Nat)(l:List V)(k:J1):J0:=λm=>bp (G.dN f l m) k
def ja(x y:V):Option V:=bin .add true true .int x y
def ji(x y:V):Option V:=bin .lss false true .int x y
def P(x y:V):Option V:=bin .eql true true .str x y
def jk(x y:V):Option V:=bin .eql true true .int x y
def jg(p:V)(n:Nat)(k:J1):J0:=λm=>bp (aI (yd p n) m) k
def jb(n:Nat)(s i:V)(k:J1):J0:=λm=>bp (aI (Xd n s i) m) k
def jt(n:Nat)(s i:V)(k:J1):J0:=λm=>bp (aI (Xd n s i) m) λx m=>bp (aI (X9 false 1 x m) m) k
def js(a:V):M→Option (V × M):=λm=>X8 Qc [.string ⟨#[]⟩] 1 1 [(0,a)] m
def jr(a b:V):M→Option (V × M):=λm=>X8 Qc [.string ⟨#[]⟩] 1 2 [(0,a),(1,b)] m
def ju(a b c:V):M→Option (V × M):=λm=>X8 Qc [.string ⟨#[]⟩] 1 3 [(0,a),(1,b),(2,c)] m
def jx(a b c d:V):M→Option (V × M):=λm=>X8 Qc [.string ⟨#[]⟩] 1 4 [(0,a),(1,b),(2,c),(3,d)] m
def jy(f:M→V × M)(k:J1):J0:=λm=>bp (some (f m)) k
end
end Go.Ab.Sh
