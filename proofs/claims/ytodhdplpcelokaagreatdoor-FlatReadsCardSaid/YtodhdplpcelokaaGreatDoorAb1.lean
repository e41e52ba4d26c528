/-
  An evaluator over abstract memories, and that what it answers the machine answers. No conditions.
-/
import GoSem.Step
import Derived.IntWalk
import Derived.Calls
import Derived.Orders
import Derived.LoopN
import Derived.Below
import Derived.Laws.IdiomCopy
import Derived.ArgAppend

set_option linter.all false
set_option maxRecDepth 100000
noncomputable section
namespace Go.Ab
abbrev ae:=Value
def aW{n m:Nat}(h:Nat.ble n m=true:=by rfl):n≤m:=Nat.le_of_ble_eq_true h
def br{b a}{l:List b}:a∈a::l:=List.mem_cons_self ..
def aY{n:Nat}:n≤n:=Nat.le_refl _
def c7{n}:0≤n:=Nat.zero_le _
def rZ{n k:Nat}:n≤n+k:=Nat.le_add_right _ _
def XAj{b a}{l:List b}:a::l≠[]:=List.cons_ne_nil _ _
def fI{p:Prop}(h:p:=by exact Eq.trans rfl rfl):p:=h
def zv{n}:n≤n+1:=Nat.le_succ _
abbrev af:=@if_neg
abbrev ah:=@if_pos
abbrev aO:=@Nat.le_trans
abbrev aQ:=@Nat.zero_add
abbrev aT:=@of_decide_eq_true
abbrev aU:=@Eq.trans
abbrev aV:=@of_decide_eq_false
abbrev bj:=@decide_eq_true
abbrev bq:=@Ne.symm
abbrev bJ:=@decide_eq_false
abbrev bT:=@Bool.and_eq_true
abbrev fy:=@List.length_append
abbrev cL:=@List.all_eq_true
abbrev cE:=@Option.some.injEq
abbrev c6:=@Nat.le_refl
abbrev dp:=@Bool.false_eq_true
abbrev du:=@List.getElem?_set
abbrev eE:=@Nat.ble_eq
abbrev dO:=@List.getElem?_eq_some_iff
abbrev dU:=@Nat.lt_of_lt_of_le
abbrev dV:=@if_false
abbrev dW:=@if_true
abbrev dX:=@List.getElem?_eq_getElem
abbrev eF:=@List.mem_cons
abbrev fk:=@List.ext_getElem?
abbrev gW:=@decide_eq_decide
abbrev iq:=@List.length_cons
abbrev gB:=@List.length_map
abbrev fO:=@Bool.and_true
abbrev kl:=@List.length_take
abbrev gp:=@Nat.add_zero
abbrev gq:=@decide_eq_true_eq
abbrev gC:=@List.mem_cons_of_mem
abbrev gX:=@List.getElem?_map
abbrev gY:=@Bool.true_and
abbrev iQ:=@Bool.not_true
abbrev rR:=@List.length_nil
abbrev jz:=@apply_ite
abbrev jO:=@List.mem_of_getElem?
abbrev jP:=@List.getElem?_take
abbrev jQ:=@congrArg
abbrev j1:=@Int.lt_irrefl
abbrev j3:=@UInt8.toNat_inj
abbrev j4:=@decide_false
abbrev km:=@List.all_cons
abbrev lx:=@List.map_cons
abbrev my:=@List.nil_append
abbrev kn:=@Nat.zero_le
abbrev kM:=@Nat.mod_lt
abbrev kN:=@Prod.mk.injEq
abbrev lz:=@List.getElem?_drop
abbrev lB:=@List.getElem?_append_right
abbrev lC:=@List.append_nil
abbrev lT:=@Nat.lt_or_ge
abbrev lU:=@Nat.mul_le_mul_right
abbrev lV:=@List.append_assoc
abbrev mz:=@List.mem_map
abbrev mA:=@List.drop_zero
abbrev mB:=@List.drop_eq_getElem_cons
abbrev nG:=@Bool.and_self
abbrev nH:=@List.mem_append
abbrev oQ:=@List.eq_nil_of_length_eq_zero
abbrev oS:=@Nat.le_of_ble_eq_true
abbrev oT:=@Nat.le_of_eq
abbrev Ga:=@Int.ofNat_eq_natCast
abbrev pI:=@Int.toNat_natCast
abbrev pJ:=@Bool.not_false
abbrev pK:=@Nat.sub_self
abbrev pL:=@Array.length_toList
abbrev pM:=@Option.some.inj
abbrev pN:=@ite_self
abbrev pQ:=@Nat.add_sub_cancel_left
abbrev qH:=@Nat.blt_eq
abbrev tE:=@List.length_drop
abbrev qI:=@ne_eq
abbrev rS:=@List.drop_eq_nil_of_le
abbrev rT:=@decide_eq_false_iff_not
abbrev rU:=@Nat.add_mul
abbrev tF:=@List.getElem?_mapIdx
abbrev tG:=@Nat.min_le_right
abbrev tH:=@Nat.beq_refl
abbrev tI:=@beq_self_eq_true
abbrev tJ:=@List.take_length
abbrev tK:=@Nat.mod_eq_of_lt
abbrev tL:=@List.getElem?_append
abbrev tM:=@Array.getD_eq_getD_getElem?
abbrev uU:=@List.getElem?_append_left
abbrev uV:=@List.length_set
abbrev uW:=@Int.eq_ofNat_of_zero_le
abbrev uX:=@not_true_eq_false
abbrev uY:=@List.map_append
abbrev uZ:=@List.length_eq_zero_iff
abbrev va:=@List.mem_singleton
abbrev vb:=@Nat.not_lt_zero
abbrev vc:=@Array.ext'
abbrev wL:=@List.mem_of_mem_take
abbrev wM:=@Nat.eq_of_beq_eq_true
abbrev wN:=@Nat.min_le_left
abbrev wO:=@Int.natCast_nonneg
abbrev wP:=@List.length_pos_iff
abbrev wJ:=@Array.getElem?_toList
abbrev wK:=@List.drop_of_length_le
abbrev zg:=@Nat.pow_le_pow_right
abbrev zh:=@BitVec.ofInt_natCast
abbrev zi:=@BitVec.toNat_ofNat
abbrev zj:=@List.take_of_length_le
abbrev zk:=@List.getElem?_eq_none
abbrev zl:=@List.nodup_cons
abbrev zm:=@List.dropWhile_cons
abbrev zn:=@List.mem_range
abbrev zo:=@List.take_zero
abbrev zp:=@List.length_mapIdx
abbrev B9:=@Nat.le_max_left
abbrev Ca:=@UInt8.toNat_ofNat'
abbrev Cb:=@List.all_nil
abbrev Cc:=@Nat.pow_succ
abbrev Cd:=@Nat.mul_one
abbrev Ce:=@Nat.mul_comm
abbrev Cf:=@List.getElem_mem
abbrev Cg:=@Nat.succ_pos
abbrev Ch:=@Nat.le_add_right
abbrev Ci:=@List.mem_append_right
abbrev Cj:=@Nat.le_succ_of_le
abbrev FU:=@List.mem_of_mem_drop
abbrev FV:=@List.map_nil
abbrev FW:=@Nat.add_assoc
abbrev FX:=@Nat.lt_of_lt_of_eq
abbrev FY:=@List.drop_length
abbrev FZ:=@Nat.lt_succ_self
abbrev F8:=@Option.isNone_none
abbrev F9:=@Array.getElem?_modify
abbrev M3:=@List.all_append
abbrev M4:=@List.mem_or_eq_of_mem_set
abbrev M5:=@decide_true
abbrev M6:=@List.mem_map_of_mem
abbrev M7:=@Classical.byContradiction
abbrev M8:=@Option.isSome_iff_exists
abbrev M9:=@List.Sublist.refl
abbrev Na:=@List.not_mem_nil
abbrev Nb:=@Bool.false_ne_true
abbrev Nc:=@Array.size_range
abbrev Nd:=@Array.getElem?_append_left
abbrev Nf:=@Bool.or_eq_true
abbrev Ng:=@Nat.one_mul
abbrev XeP:=@List.sum_cons
abbrev Nh:=@List.take_append_getElem
abbrev Ni:=@List.range'_succ
abbrev Nj:=@List.mem_cons_self
abbrev Nk:=@Array.toList_inj
abbrev YQ:=@Nat.one_ne_zero
abbrev YR:=@List.set_eq_take_append_cons_drop
abbrev YS:=@List.count_le_length
abbrev YT:=@Nat.one_le_two_pow
abbrev YU:=@Nat.min_eq_left
abbrev YV:=@Nat.add_sub_cancel
abbrev YW:=@List.nodup_append
abbrev YX:=@List.all_reverse
abbrev YY:=@List.head?_eq_getElem?
abbrev YZ:=@Bool.or_eq_false_iff
abbrev Y0:=@List.nil_sublist
abbrev Y1:=@List.set_append_right
abbrev Y2:=@Int.toNat_of_nonneg
abbrev Y3:=@List.append_cancel_left
abbrev Y4:=@List.flatMap_cons
abbrev Y5:=@List.take_succ_cons
abbrev Y6:=@List.drop_succ_cons
abbrev Y7:=@Classical.axiomOfChoice
abbrev Y8:=@Array.getElem?_eq_some_iff
abbrev Y9:=@Array.size_append
abbrev Za:=@Array.toList_map
abbrev Zb:=@not_false_eq_true
abbrev Zc:=@List.forIn_cons
abbrev Zd:=@Option.ite_none_right_eq_some
abbrev XeQ:=@Nat.shiftLeft_add_eq_or_of_lt
abbrev XeR:=@List.getElem!_eq_getElem?_getD
abbrev XeS:=@List.drop_append_of_le_length
abbrev XeT:=@Array.getElem?_setIfInBounds_ne
abbrev XeU:=@Array.getElem?_setIfInBounds_self_of_lt
abbrev cQ:List UInt8:=[105,110]
abbrev dq:List UInt8:=[112,101,114,109,105,116]
abbrev dH:List UInt8:=[114,111,117,116,101,45,109,97,112]
abbrev dP:List UInt8:=[100,101,110,121]
abbrev dZ:List UInt8:=[98,103,112]
abbrev ed:List UInt8:=[111,117,116]
abbrev gZ:List UInt8:=[111,115,112,102]
abbrev jB:List UInt8:=[118,114,102]
abbrev jC:List UInt8:=[102,105,108,116,101,114]
abbrev jD:List UInt8:=[97,115]
abbrev lD:List UInt8:=[104,111,115,116,110,97,109,101]
abbrev lE:List UInt8:=[110,101,120,116]
abbrev lW:List UInt8:=[114,111,117,116,101,114]
abbrev lX:List UInt8:=[116,97,103]
abbrev mC:List UInt8:=[97,114,101,97]
abbrev mD:List UInt8:=[99,111,115,116]
abbrev mF:List UInt8:=[112,97,115,115,105,118,101]
abbrev oV:List UInt8:=[109,101,116,114,105,99]
abbrev pS:List UInt8:=[105,110,115,105,100,101]
abbrev pT:List UInt8:=[111,117,116,115,105,100,101]
abbrev pU:List UInt8:=[114,111,117,116,101,114,45,105,100]
abbrev qJ:List UInt8:=[99,111,110,110,101,99,116,101,100]
abbrev qK:List UInt8:=[115,116,97,116,105,99]
abbrev qL:List UInt8:=[114,101,100,105,115,116,114,105,98,117,116,101]
abbrev sc:List UInt8:=[97,110,121]
abbrev se:List UInt8:=[100,105,115,116,97,110,99,101]
abbrev sf:List UInt8:=[105,110,116,101,114,102,97,99,101]
abbrev sg:List UInt8:=[99,108,105,101,110,116]
abbrev si:List UInt8:=[110,101,120,116,45,104,111,112,45,115,101,108,102]
abbrev sj:List UInt8:=[114,111,117,116,101,45,109,97,112,32]
abbrev tP:List UInt8:=[100,101,115,116,105,110,97,116,105,111,110]
abbrev wQ:List UInt8:=[112,114,101,102,105,120,45,108,105,115,116]
abbrev wR:List UInt8:=[99,111,109,109,117,110,105,116,121,45,108,105,115,116]
abbrev wS:List UInt8:=[110,97,116]
abbrev wT:List UInt8:=[98,108,111,99,107,32]
abbrev wU:List UInt8:=[98,103,112,32]
abbrev zw:List UInt8:=[103,101]
abbrev zx:List UInt8:=[108,101]
abbrev zy:List UInt8:=[116,121,112,101]
abbrev zz:List UInt8:=[115,111,117,114,99,101]
abbrev zA:List UInt8:=[116,111]
abbrev zB:List UInt8:=[97,100,100]
abbrev zC:List UInt8:=[109,97,116,99,104]
abbrev zE:List UInt8:=[115,101,116]
abbrev zF:List UInt8:=[99,111,110,116,105,110,117,101]
abbrev zG:List UInt8:=[110,101,105,103,104,98,111,114]
abbrev Cq:List UInt8:=[104,111,115,116]
abbrev Cr:List UInt8:=[110,101,105,103,104,98,111,114,32]
abbrev Gc:List UInt8:=[114,97,110,103,101]
abbrev Gd:List UInt8:=[100,105,115,99,97,114,100]
abbrev Gf:List UInt8:=[116,99,112]
abbrev Gg:List UInt8:=[117,100,112]
abbrev Gh:List UInt8:=[105,99,109,112]
abbrev Gi:List UInt8:=[118,114,102,32]
abbrev Gk:List UInt8:=[105,110,116,101,114,102,97,99,101,32]
abbrev Gl:List UInt8:=[102,105,108,116,101,114,32]
abbrev Gm:List UInt8:=[111,115,112,102,32]
abbrev NA:List UInt8:=[114,111,117,116,101]
abbrev NB:List UInt8:=[97,100,100,114,101,115,115]
abbrev NC:List UInt8:=[115,104,117,116,100,111,119,110]
abbrev ND:List UInt8:=[110,101,116,119,111,114,107]
abbrev NF:List UInt8:=[110,101,116,119,111,114,107,32]
abbrev Zp:List UInt8:=[112,114,101,102,101,114,101,110,99,101]
abbrev Zq:List UInt8:=[99,111,109,109,117,110,105,116,121]
abbrev Zr:List UInt8:=[112,114,101,112,101,110,100]
abbrev Zs:List UInt8:=[110,101,120,116,45,104,111,112]
def aa{p:Prop}(h:p:=by omega):p:=h
def ak{p:Prop}(h:p:=by decide):p:=h
def aq{p:Prop}(h:p:=by grind):p:=h
def ar{p:Prop}(h:p:=by simp):p:=h
def bY{p:Prop}(h:p:=by rfl):p:=h
def cF{p:Prop}(h:p:=by simp;omega):p:=h
def dY{p:Prop}(h:p:=by simp[Op.operands]):p:=h
def jA{p:Prop}(h:p:=by injection e with e1 e2;cases e2):p:=h
def jR{p:Prop}(h:p:=by rw[IntWalk.i64_in _ (by omega)];omega):p:=h
def oU{p:Prop}(h:p:=by simp_all):p:=h
def pR{p:Prop}(h:p:=by rw[Mem.bV,ah rfl]):p:=h
def rV{p:Prop}(h:p:=by rw[Mem.bV,af (by omega)]):p:=h
def rW{p:Prop}(h:p:=by show 0+2<=2;simp):p:=h
def rX{p:Prop}(h:p:=by rw[fy];omega):p:=h
def tN{p:Prop}(h:p:=by show 4200<18446744073709551616;omega):p:=h
def tO{p:Prop}(h:p:=by simp only[Ga];omega):p:=h
def vd{p:Prop}(h:p:=by rw[kl];omega):p:=h
def Ze{p:Prop}(h:p:=by rw[e];decide):p:=h
def ve{p:Prop}(h:p:=by trivial):p:=h
def vf{p:Prop}(h:p:=by simp only[fy];omega):p:=h
def zq{p:Prop}(h:p:=by unfold ax;split<;>rfl):p:=h
def zt{p:Prop}(h:p:=by rw[lH];simp[mq]):p:=h
def zu{p:Prop}(h:p:=by rw[gN];rfl):p:=h
def Ck{p:Prop}(h:p:=by rw[IntWalk.u8_in _ (by omega)]):p:=h
def Cm{p:Prop}(h:p:=by rw[Mem.aX,ah rfl]):p:=h
def Cn{p:Prop}(h:p:=by rw[X81];omega):p:=h
def Co{p:Prop}(h:p:=by simp only[fy,iq,rR];omega):p:=h
def Cp{p:Prop}(h:p:=by rw[iT];congr 2;rw[gW];omega):p:=h
def Gb{p:Prop}(h:p:=by simp only[fy,my,rR];omega):p:=h
def Nl{p:Prop}(h:p:=by rw[gM];omega):p:=h
def gS{p:Prop}(h:p:=by grind[cK]):p:=h
def Nn{p:Prop}(h:p:=by show 128<=Utf8.runeError;unfold Utf8.runeError;omega):p:=h
def Np{p:Prop}(h:p:=by rw[e];exact NX.aR _ _ _):p:=h
def Nq{p:Prop}(h:p:=by split<;>rfl):p:=h
def Nr{p:Prop}(h:p:=by unfold fU;split<;>rfl):p:=h
def Ns{p:Prop}(h:p:=by unfold aP de de;rw[af (by rw[e];decide),ah e]):p:=h
def Nt{p:Prop}(h:p:=by rw[Qb];congr 2;rw[gW];omega):p:=h
def Nv{p:Prop}(h:p:=by subst e;trivial):p:=h
def Nw{p:Prop}(h:p:=by rw[Kt,bJ (by omega)]):p:=h
def Nx{p:Prop}(h:p:=by rw[Kt,bj (by omega)]):p:=h
def Ny{p:Prop}(h:p:=by simp only[fits,bT,eE,gB,iq,rR];omega):p:=h
def Nz{p:Prop}(h:p:=by simp[binOp,Op.intBits]):p:=h
def Zf{p:Prop}(h:p:=by rw[IntWalk.i64_in _ (by omega)];simp):p:=h
def Zg{p:Prop}(h:p:=by rw[IntWalk.i64_in _ (by omega)]):p:=h
def Zh{p:Prop}(h:p:=by unfold kW iA;dsimp only;split<;>rfl):p:=h
def Zi{p:Prop}(h:p:=by grind[Qb,decide_eq_false]):p:=h
def Zj{p:Prop}(h:p:=by rw[Qb,bj (by omega)]):p:=h
def Zk{p:Prop}(h:p:=by rw[eg,bj (by omega)]):p:=h
def Zl{p:Prop}(h:p:=by rw[kl,tE];omega):p:=h
def Zm{p:Prop}(h:p:=by unfold fS;rw[lx,XeP]):p:=h
def Zn{p:Prop}(h:p:=by simp[binOp,Op.intArith]):p:=h
def Zo{p:Prop}(h:p:=by unfold Oper.looksAt;grind):p:=h
def XeV{p:Prop}(h:p:=by repeat' (first|exact trivial|exact bR _ _|exact fV _|apply And.intro)):p:=h
def XeW{p:Prop}(h:p:=by unfold aP de de de;rw[af (by grind),af (by rw[e];decide),ah e]):p:=h
def XeX{p:Prop}(h:p:=by rw[oF];exact aO (show _<=70000 by simp;omega) (by decide)):p:=h
def XeY{p:Prop}(h:p:=by simp[Xr,List.intercalate,List.intersperse]):p:=h
def XeZ{p:Prop}(h:p:=by rw[List.all_map];exact cL.mpr λ_ _=>rfl):p:=h
inductive Tr (α:Type) where
 |nil
 |node (v:Option α) (l r:Tr α)
def Tr.get{b}(t:Tr b):Nat->Option b:=
 Tr.rec (motive:=λ_=>Nat->Option b) (λ_=>none) (λv _ _ c d p=>Bool.rec (Bool.rec (d (Nat.div p 2)) (c (Nat.div p 2)) (Nat.beq (Nat.mod p 2) 0)) v (Nat.beq p 1)) t
def BO{d:Type}(c a b):(Bool.rec b a c:d)=bif c then a else b:=by cases c<;>rfl
def Tr.get_nil{a}(q):(Tr.nil:Tr a).get q=none:=rfl
def Tr.yN{a}(v)(l r:Tr a)(p):(Tr.node v l r).get p=bif Nat.beq p 1 then v else bif Nat.beq (p%2) 0 then l.get (p / 2)else r.get (p / 2):=by rw[<-BO,<-BO];rfl
def Tr.put{b}(f:Nat)(t:Tr b)(p:Nat)(x:b):Tr b:=
 Nat.rec (motive:=λ_=>Tr b->Nat->Tr b) (λt _=>t) (λ_ c t p=>Tr.rec (motive:=λ_=>Tr b)
   (Bool.rec (Bool.rec (Tr.node none .nil (c .nil (Nat.div p 2))) (Tr.node none (c .nil (Nat.div p 2)) .nil) (Nat.beq (Nat.mod p 2) 0)) (Tr.node (some x) .nil .nil) (Nat.beq p 1))
   (λv l r _ _=>Bool.rec (Bool.rec (Tr.node v l (c r (Nat.div p 2))) (Tr.node v (c l (Nat.div p 2)) r) (Nat.beq (Nat.mod p 2) 0)) (Tr.node (some x) l r) (Nat.beq p 1)) t) f t p
def Tr.XrS{a}(f p)(x:a):Tr.put (f+1) .nil p x=bif Nat.beq p 1 then .node (some x) .nil .nil else bif Nat.beq (p%2) 0 then .node none (Tr.put f .nil (p / 2) x) .nil else .node none .nil (Tr.put f .nil (p / 2) x):=by rw[<-BO,<-BO];rfl
def Tr.XrT{a}(f v l r p)(x:a):Tr.put (f+1) (.node v l r) p x=bif Nat.beq p 1 then .node (some x) l r else bif Nat.beq (p%2) 0 then .node v (Tr.put f l (p / 2) x) r else .node v l (Tr.put f r (p / 2) x):=by rw[<-BO,<-BO];rfl
inductive dQ where
 |cells (c:List Value) (ver fro:Nat) (ro:Bool) (ty:Option Nat)
 |map (es:List (Value × Value × Nat)) (clock:Nat)
 |dM (s:ByteArray) (pos:Nat)
 |B2 (m:Option Nat) (since:Nat) (seen:Option Nat) (last:Nat)
def XnS(t:Tr ae)(n:Nat):List ae:=(List.range n).map λi=>(t.get (i+1)).getD (.tuple #[])
def pB(l:List (Nat × Nat))(c:Nat):Option Nat:=List.rec none (λe _ b=>Prod.rec (λa r=>Bool.rec b (some r) (Nat.beq a c)) e) l
def rL(t:Tr (List (Nat × Nat)))(c:Nat):Option Nat:=Option.rec none (λl=>pB l c) (t.get (Nat.add 256 (Nat.mod c 251)))
def XoI(H x:Nat):Bool:=Nat.beq (Nat.mod (Nat.shiftRight H x) 2) 1
structure TB where
 l:List (Nat × Nat)
 n:Nat
 t:Tr (List (Nat × Nat))
 wf:(∀c,rL t c=pB l.reverse c)/\n=l.length
structure SB where
 k:IntKind
 l:List Nat
 n:Nat
 H:Nat
 wf:(∀x,XoI H x=l.contains x)/\n=l.length
def XrE(c:Nat):ae:=.agg ⟨[.int .i32 (Int.ofNat (c%65536)),.int .i32 (Int.ofNat (c / 65536%65536)),.int .i32 (Int.ofNat (c / 4294967296))]⟩
def XlZ(l:List (Nat × Nat)):List (ae × ae × Nat):=l.zipIdx.map λe=>(XrE e.1.1,.int .i32 (Int.ofNat e.1.2),e.2)
def XnR(k:IntKind)(l:List Nat):List (ae × ae × Nat):=l.zipIdx.map λe=>(.int k (Int.ofNat e.1),.bool true,e.2)
def ndc(N i6:Nat):Nat:=Nat.mod (Nat.shiftRight N (Nat.mul 16 i6)) 65536
def ndl(N n:Nat):List ae:=(List.range n).map λa=>.int .i32 (Int.ofNat (ndc N a))
inductive Sp where
 |nds (N n ver:Nat) (ty:Option Nat)
 |dN (T:TB)
 |set (i5:SB)
def Sp.norm(s:Sp):dQ:=match s with|.nds N n ver ty=>.cells (ndl N n) ver 0 false ty|.dN T=>.map (XlZ T.l.reverse) T.n|.set a=>.map (XnR a.k a.l.reverse) a.n
inductive Raw where
 |plain (y:dQ)
 |arr (t:Tr Value) (n ver fro:Nat) (ro:Bool) (ty:Option Nat)
 |sp (s:Sp)
def Raw.norm(r:Raw):dQ:=Raw.casesOn r (λy=>y) (λt n ver a ro ty=>.cells (XnS t n) ver a ro ty) (λs=>s.norm)
structure Mem where
 next:Nat
 low:Nat
 tr:Tr Raw
def Mem.get(m:Mem)(b:Nat):Option dQ:=Option.rec none (λr=>some (Raw.norm r)) (m.tr.get (Nat.succ b))
def Mem.Mr(m:Mem)(b):m.get b=(m.tr.get (b+1)).map Raw.norm:=by show(Option.rec none (λr=>some (Raw.norm r)) (m.tr.get (b+1)):Option dQ)=_;cases m.tr.get (b+1)<;>rfl
def Mem.FM(m:Mem)(b:Nat)(y:Raw):Mem:=
 Mem.rec (motive:=λ_=>Mem) (λn l t=>Bool.rec ⟨n,l,Tr.put (Nat.succ b) t (Nat.succ b) y⟩ ⟨n,b,Tr.put (Nat.succ b) t (Nat.succ b) y⟩ (Nat.blt b l)) m
def Mem.MS(m:Mem)(b y):m.FM b y={ next:=m.next,low:=min m.low b,tr:=Tr.put (b+1) m.tr (b+1) y }:=by
 cases m with
 |mk n l t =>
  show(Bool.rec _ _ (Nat.blt b l):Mem)=_;cases h:Nat.blt b l
  ·have:¬b<l:=λx=>by have:=qH.mpr x;rw[h]at this;cases this
   show(⟨n,l,_⟩:Mem)=⟨n,min l b,_⟩;rw[YU aa]
  ·have:b<l:=qH.mp h;show(⟨n,b,_⟩:Mem)=⟨n,min l b,_⟩;rw[Nat.min_eq_right aa]
def Mem.put(m:Mem)(b:Nat)(y:dQ):Mem:=m.FM b (.plain y)
def Mem.XeA(m:Mem)(b y):m.put b y={ next:=m.next,low:=min m.low b,tr:=Tr.put (b+1) m.tr (b+1) (.plain y) }:=Mem.MS m b (.plain y)
def Mem.push(m:Mem)(y:dQ):Mem:={ next:=Nat.succ m.next,low:=m.low,tr:=Tr.put (Nat.succ m.next) m.tr (Nat.succ m.next) (.plain y) }
def one(v:ae):Bool:=match v with|.agg _|.tuple _=>false|_=>true
def kY(ty:Nat)(cs:List ae)(m:Mem):ae × Mem:=(.pointer (some ⟨m.next,0,some 0⟩),m.push (.cells cs 0 0 false (some (2*ty+1))))
def tA:List ae->List ae->Option (List ae)
 |c,[]=>some c
 |[],_::_=>none
 |_::c,v::vs=>(match tA c vs with|some l=>some (v::l)|none=>none)
def uR:List ae->Nat->List ae->Option (List ae)
 |[],y,vs=>(match Nat.beq y 0 with|true=>tA [] vs|false=>none)
 |a::c,y,vs=>(match Nat.beq y 0 with|true=>tA (a::c) vs|false=>(match uR c (y-1) vs with|some l=>some (a::l)|none=>none))
def M2{a:Type}(v:ae)(f:IntKind->Int->Option a):Option a:=v.casesOn (λ_=>none) (f) (λ_ _=>none) (λ_ _ _=>none) (λ_=>none) (λ_=>none) (λ_ _ _=>none) (λ_=>none) (λ_=>none) (λ_ _ _=>none) (none) (λ_ _=>none) (none) (λ_=>none) (λ_=>none)
def Xtu{a}(v)(f:IntKind->Int->Option a):M2 v f=match v with|.int k n=>f k n|_=>none:=by cases v<;>rfl
def yu(v:ae):List ae:=v.casesOn (λ_=>[v]) (λ_ _=>[v]) (λ_ _=>[v]) (λ_ _ _=>[v]) (λ_=>[v]) (λ_=>[v]) (λ_ _ _=>[v]) (λ_=>[v]) (λ_=>[v]) (λ_ _ _=>[v]) ([v]) (λ_ _=>[v]) ([v]) (λa=>Array.rec (λl=>l) a) (λ_=>[v])
def Xvr(v):yu v=v.cells.toList:=by cases v<;>rfl
def FI{c:Type}(l:List c)(n:Nat):Nat:=Nat.add (List.rec (motive:=λ_=>Nat) 0 (λ_ _ b=>Nat.succ b) l) n
def Xs5{b}:∀(l:List b)(n),FI l n=l.length+n
 |[],_=>rfl
 |a::l,n=>by show Nat.succ (FI l 0)+n=_;rw[Xs5 l 0,iq]
def uN(c:List ae):Nat->Option ae:=List.rec (motive:=λ_=>Nat->Option ae) (λ_=>none) (λa _ d y=>Nat.rec (motive:=λ_=>Option ae) (some a) (λk _=>d k) y) c
def K5:∀c y,uN c y=c[y]?
 |[],_=>by rw[List.getElem?_nil];rfl
 |_::_,0=>rfl
 |_::c,y+1=>by rw[List.getElem?_cons_succ,<-K5 c y];rfl
def MP(c:List ae):List ae->Option (List ae):=List.rec (motive:=λ_=>List ae->Option (List ae)) (λvs=>List.rec (some []) (λ_ _ _=>none) vs)
 (λa c d vs=>List.rec (motive:=λ_=>Option (List ae)) (some (a::c)) (λv vs _=>Option.rec none (λl=>some (v::l)) (d vs)) vs) c
def WR:∀c vs,MP c vs=tA c vs
 |[],[]=>rfl
 |[],_::_=>rfl
 |_::_,[]=>rfl
 |a::c,v::vs=>by
  show(Option.rec none (λl=>some (v::l)) (MP c vs):Option (List ae))=(match tA c vs with|some l=>some (v::l)|none=>none)
  rw[WR c vs];cases tA c vs<;>rfl
def FP(vs:List ae)(c:List ae):Nat->Option (List ae):=List.rec (motive:=λ_=>Nat->Option (List ae)) (λy=>Nat.rec (motive:=λ_=>Option (List ae)) (MP [] vs) (λ_ _=>none) y)
 (λa c d y=>Nat.rec (motive:=λ_=>Option (List ae)) (MP (a::c) vs) (λk _=>Option.rec none (λl=>some (a::l)) (d k)) y) c
def Xwb(vs):∀c y,FP vs c y=uR c y vs
 |[],0=>WR [] vs
 |[],_+1=>rfl
 |a::c,0=>WR (a::c) vs
 |a::c,y+1=>by
  show(Option.rec none (λl=>some (a::l)) (FP vs c y):Option (List ae))=(match uR c y vs with|some l=>some (a::l)|none=>none)
  rw[Xwb vs c y];cases uR c y vs<;>rfl
def yM:Nat->List ae->List ae
 |0,c=>c
 |_+1,[]=>[]
 |k+1,_::c=>yM k c
def L8:Nat->List ae->List ae
 |0,c=>c
 |q+1,c=>yM 16 (L8 q c)
def Xp8:∀k c,yM k c=c.drop k
 |0,c=>rfl
 |k+1,[]=>by simp[yM]
 |k+1,a::c=>by simp only[yM,Xp8 k c,Y6]
def Xnm:∀q c,L8 q c=c.drop (16*q)
 |0,c=>rfl
 |q+1,c=>by simp only[L8,Xp8,Xnm q c,List.drop_drop];congr 1
def Yy(c:List ae)(y:Nat):Option ae:=match Nat.blt y 16 with
 |true=>uN c y
 |false=>uN (L8 (Nat.div y 16) c) (Nat.mod y 16)
def Xtz(c y):Yy c y=c[y]?:=by
 unfold Yy;split
 ·exact K5 c y
 ·rw[K5,Xnm,lz];congr 1;show 16*(y / 16)+y%16=y;omega
def Br{a:Type}(n:Nat)(f:Nat->a):a:=match n with|0=>f 0|k+1=>f (k+1)
def Ex{a}(n)(f:Nat->a):Br n f=f n:=by cases n<;>rfl
def E4{b:Type}(n:Nat)(f:Nat->b):b:=Nat.rec (motive:=λ_=>b) (f 0) (λk _=>f (Nat.succ k)) n
def Xrj{a}(n)(f:Nat->a):E4 n f=f n:=by cases n<;>rfl
def Wi:∀c vs,tA c vs=if vs.length<=c.length then some (vs++c.drop vs.length)else none
 |c,[]=>by cases c<;>simp[tA]
 |[],_::_=>by simp[tA]
 |a::c,v::vs=>by
  simp only[tA,Wi c vs,iq,Nat.add_le_add_iff_right];by_cases b:vs.length<=c.length
  ·rw[ah b,ah b];rfl
  ·rw[af b,af b]
def Xvb:∀c y vs,uR c y vs=if y+vs.length<=c.length then some (c.take y++vs++c.drop (y+vs.length))else none
 |[],0,vs=>by have h:Nat.beq 0 0=true:=rfl;simp only[uR,h,Wi];simp
 |[],y+1,vs=>by have h:Nat.beq (y+1) 0=false:=rfl;simp only[uR,h,rR];rw[af aa]
 |a::c,0,vs=>by have h:Nat.beq 0 0=true:=rfl;simp only[uR,h,Wi,aQ,zo,my]
 |a::c,y+1,vs=>by
  have h:Nat.beq (y+1) 0=false:=rfl;have e:y+1+vs.length=(y+vs.length)+1:=aa;simp only[uR,h,YV,Xvb c y vs,iq,e,Y5,Y6,Nat.add_le_add_iff_right];by_cases b:y+vs.length<=c.length
  ·rw[ah b,ah b];rfl
  ·rw[af b,af b]
def yr(s:Option Nat)(v:Nat):Bool:=Option.rec false (λx=>Nat.beq x v) s
def xT(s v):yr s v=decide (s=some v):=by
 cases s with
 |none=>rfl
 |some x =>
  show Nat.beq x v=_;simp only[cE];cases h:Nat.beq x v
  ·exact(bJ (Nat.ne_of_beq_eq_false h)).symm
  ·exact(bj (wM h)).symm
def MC(a b:IntKind):Bool:=match a,b with|.i8,.i8|.i16,.i16|.i32,.i32|.i64,.i64|.u8,.u8|.u16,.u16|.u32,.u32|.u64,.u64=>true|_,_=>false
def Xo0(a b):MC a b=decide (a=b):=by cases a<;>cases b<;>rfl
def Mt(a b:Int):Bool:=match a,b with|.ofNat n,.ofNat k=>Nat.beq n k|.negSucc n,.negSucc k=>Nat.beq n k|_,_=>false
def yW(a b:Nat):Nat.beq a b=decide (a=b):=by
 cases h:Nat.beq a b
 ·exact(bJ (Nat.ne_of_beq_eq_false h)).symm
 ·exact(bj (wM h)).symm
def pD(a b):Nat.blt a b=decide (a<b):=by
 have:Nat.blt a b=true↔a<b:=by simp[Nat.blt,eE];omega
 cases h:Nat.blt a b
 ·exact(bJ (λx=>by rw[this.mpr x]at h;cases h)).symm
 ·exact(bj (this.mp h)).symm
def Yw(a b:Nat):Nat.ble a b=decide (a<=b):=by
 cases h:Nat.ble a b
 ·exact(bJ (λx=>by rw[eE.mpr x]at h;cases h)).symm
 ·exact(bj (oS h)).symm
def Xzt(a b):Mt a b=(a==b):=by have:(a==b)=decide (a=b):=rfl;rw[this];cases a<;>cases b<;>simp only[Mt,yW,Ga,gW,eq_comm (a:=false),rT]<;>omega
def Mv(a b:Int):Bool:=match a,b with|.ofNat n,.ofNat k=>Nat.blt n k|.negSucc _,.ofNat _=>true|.ofNat _,.negSucc _=>false|.negSucc n,.negSucc k=>Nat.blt k n
def XjI(a b):Mv a b=decide (a<b):=by cases a<;>cases b<;>simp only[Mv,pD,Ga,gW,eq_comm (a:=true),eq_comm (a:=false),gq,rT]<;>omega
def Mu(a b:Int):Bool:=match a,b with|.ofNat n,.ofNat k=>Nat.ble n k|.negSucc _,.ofNat _=>true|.ofNat _,.negSucc _=>false|.negSucc n,.negSucc k=>Nat.ble k n
def XkF(a b):Mu a b=decide (a<=b):=by cases a<;>cases b<;>simp only[Mu,Yw,Ga,gW,eq_comm (a:=true),eq_comm (a:=false),gq,rT]<;>omega
def yG(k:IntKind)(n:Int):Int:=
 match k,n with
 |.i64,.ofNat x=>(match Nat.blt x 9223372036854775808 with|true=>.ofNat x|false=>IntKind.wrap .i64 (.ofNat x))
 |.i64,.negSucc x=>(match Nat.blt x 9223372036854775808 with|true=>.negSucc x|false=>IntKind.wrap .i64 (.negSucc x))
 |.u8,.ofNat x=>(match Nat.blt x 256 with|true=>.ofNat x|false=>IntKind.wrap .u8 (.ofNat x))
 |.u32,.ofNat x=>(match Nat.blt x 4294967296 with|true=>.ofNat x|false=>IntKind.wrap .u32 (.ofNat x))
 |.u64,.ofNat x=>(match Nat.blt x 18446744073709551616 with|true=>.ofNat x|false=>IntKind.wrap .u64 (.ofNat x))
 |k,n=>IntKind.wrap k n
def LV(k:IntKind)(n:Int):Int:=
 Int.rec (motive:=λ_=>Int) (λx=>IntKind.rec (motive:=λ_=>Int) (yG .i8 n) (yG .i16 n) (Bool.rec (IntKind.wrap .i32 n) n (Nat.blt x 2147483648)) (Bool.rec (IntKind.wrap .i64 n) n (Nat.blt x 9223372036854775808))
  (Bool.rec (IntKind.wrap .u8 n) n (Nat.blt x 256)) (Bool.rec (IntKind.wrap .u16 n) n (Nat.blt x 65536)) (Bool.rec (IntKind.wrap .u32 n) n (Nat.blt x 4294967296)) (Bool.rec (IntKind.wrap .u64 n) n (Nat.blt x 18446744073709551616)) k) (λ_=>yG k n) n
def VZ(k n):yG k n=k.wrap n:=by
 unfold yG;split
 ·split
  ·rename_i h;rw[pD,gq]at h;exact(IntWalk.i64_in _ tO).symm
  ·rfl
 ·split
  ·rename_i h;rw[pD,gq]at h;exact(IntWalk.i64_in _ aa).symm
  ·rfl
 ·split
  ·rename_i h;rw[pD,gq]at h;exact(IntWalk.u8_in _ tO).symm
  ·rfl
 ·split
  ·rename_i h;rw[pD,gq]at h;exact(IntWalk.u32_in _ tO).symm
  ·rfl
 ·split
  ·rename_i h;rw[pD,gq]at h;exact(IntWalk.u64_in _ tO).symm
  ·rfl
 ·rfl
def Xx8(k n):LV k n=k.wrap n:=by
 cases n with
 |negSucc x=>exact VZ k _
 |ofNat x =>
  cases k
  ·show yG .i8 (.ofNat x)=_;exact VZ _ _
  ·show yG .i16 (.ofNat x)=_;exact VZ _ _
  ·show(Bool.rec (IntKind.wrap .i32 (.ofNat x)) (.ofNat x) (Nat.blt x 2147483648):Int)=_;cases h:Nat.blt x 2147483648
   ·rfl
   ·rw[pD,gq]at h;exact(IntWalk.i32_in _ tO).symm
  ·show(Bool.rec (IntKind.wrap .i64 (.ofNat x)) (.ofNat x) (Nat.blt x 9223372036854775808):Int)=_;cases h:Nat.blt x 9223372036854775808
   ·rfl
   ·rw[pD,gq]at h;exact(IntWalk.i64_in _ tO).symm
  ·show(Bool.rec (IntKind.wrap .u8 (.ofNat x)) (.ofNat x) (Nat.blt x 256):Int)=_;cases h:Nat.blt x 256
   ·rfl
   ·rw[pD,gq]at h;exact(IntWalk.u8_in _ tO).symm
  ·show(Bool.rec (IntKind.wrap .u16 (.ofNat x)) (.ofNat x) (Nat.blt x 65536):Int)=_;cases h:Nat.blt x 65536
   ·rfl
   ·rw[pD,gq]at h;exact(IntWalk.u16_in _ tO).symm
  ·show(Bool.rec (IntKind.wrap .u32 (.ofNat x)) (.ofNat x) (Nat.blt x 4294967296):Int)=_;cases h:Nat.blt x 4294967296
   ·rfl
   ·rw[pD,gq]at h;exact(IntWalk.u32_in _ tO).symm
  ·show(Bool.rec (IntKind.wrap .u64 (.ofNat x)) (.ofNat x) (Nat.blt x 18446744073709551616):Int)=_;cases h:Nat.blt x 18446744073709551616
   ·rfl
   ·rw[pD,gq]at h;exact(IntWalk.u64_in _ tO).symm
def XbB(a b:Int):Int:=Int.rec (motive:=λ_=>Int) (λn=>Int.rec (motive:=λ_=>Int) (λk=>.ofNat (Nat.add n k)) (λ_=>Int.add a b) b) (λ_=>Int.add a b) a
def Xx1(a b):XbB a b=a+b:=by cases a<;>cases b<;>rfl
def XbF(a b:Int):Int:=Int.rec (motive:=λ_=>Int) (λn=>Int.rec (motive:=λ_=>Int) (λk=>Bool.rec (Int.sub a b) (.ofNat (Nat.sub n k)) (Nat.ble k n)) (λ_=>Int.sub a b) b) (λ_=>Int.sub a b) a
def Xyb(a b):XbF a b=a-b:=by
 cases a<;>cases b<;>first|rfl|skip
 rename_i n k;show(Bool.rec (Int.sub _ _) (Int.ofNat (Nat.sub n k)) (Nat.ble k n):Int)=_;cases h:Nat.ble k n
 ·rfl
 ·rw[Yw,gq]at h;show Int.ofNat (n-k)=_;simp only[Ga];omega
def FC:=@Mt
def Xvk(a b):FC a b=Mt a b:=rfl
def Yn:=@Mv
def XhU(a b):Yn a b=Mv a b:=rfl
def Ym:=@Mu
def XfU(a b):Ym a b=Mu a b:=rfl
def Fu(l k:List UInt8):Bool:=match l,k with|[],[]=>true|a::l,b::k=>(match Nat.beq a.toNat b.toNat with|true=>Fu l k|false=>false)|_,_=>false
def Mf(l:List UInt8):List UInt8->Bool:=List.rec (motive:=λ_=>List UInt8->Bool) (λk=>List.rec true (λ_ _ _=>false) k) (λa _ d k=>List.rec (motive:=λ_=>Bool) false (λb k _=>Bool.rec false (d k) (Nat.beq a.toNat b.toNat)) k) l
def Xrx:∀l k,Mf l k=Fu l k
 |[],[]=>rfl
 |[],_::_=>rfl
 |_::_,[]=>rfl
 |a::l,b::k=>by show(Bool.rec false (Mf l k) (Nat.beq a.toNat b.toNat):Bool)=_;simp only[Fu,Xrx l k];cases Nat.beq a.toNat b.toNat<;>rfl
def Xpy:∀l k,Fu l k=(l==k)
 |[],[]=>rfl
 |[],_::_=>rfl
 |_::_,[]=>rfl
 |a::l,b::k=>by
  have e:((a::l)==(b::k))=(decide (a=b)&&(l==k)):=rfl;rw[e];simp only[Fu,yW];by_cases h:a=b
  ·subst h;simp[Xpy l k]
  ·have:¬a.toNat=b.toNat:=λx=>h (j3.mp x);simp[h,this]
def iI(m:Mem)(a:Addr)(n:Nat):Option (List ae):=
 match m.get a.block with
 |some (.cells c ver _ _ _)=>if a.spot=some ver&&a.off+n<=c.length then some ((c.drop a.off).take n)else none
 |_=>none
def j0:=@iI
def jF(m a n):j0 m a n=iI m a n:=rfl
def A0(m:Mem)(a:Addr)(vs:List ae):Option Mem:=
 match m.get a.block with
 |some (.cells c ver b false ty)=>if a.spot=some ver&&b<=a.off&&a.off+vs.length<=c.length&&vs.all one then some (m.put a.block (.cells (c.take a.off++vs++c.drop (a.off+vs.length)) ver b false ty))else none
 |_=>none
def setCells:=@A0
def Bn(agg:Bool)(size:Nat)(x:ae)(m:Mem):Option ae:=
 match x with
 | .pointer (some a)=>match agg with
  |true=>match j0 m a size with|some cs=>some (.agg cs.toArray)|none=>none
  |false=>match j0 m a 1 with|some [v]=>some v|_=>none
 |_=>none
def E0(agg:Bool)(size:Nat)(x:ae)(m:Mem):Option ae:=
 match x with
 | .pointer (some a)=>match agg with
  |true=>match j0 m a size with|some cs=>some (.agg cs.toArray)|none=>none
  | false=>(match m.get a.block with
   |some (.cells c ver _ _ _)=>(match yr a.spot ver with|true=>Yy c a.off|false=>none)
   |_=>none)
 |_=>none
def X9:=@E0
def Vs(agg size x m):X9 agg size x m=E0 agg size x m:=rfl
def EB(agg size x m):X9 agg size x m=Bn agg size x m:=by
 rw[Vs];unfold E0 Bn;split
 ·rename_i a;cases agg
  ·simp only;rw[jF];unfold iI;split
   ·rename_i c ver _ _ _ _;rw[xT,Xtz];by_cases h:a.spot=some ver
    ·simp only[h,M5,gY];by_cases b:a.off+1<=c.length
     ·simp only[b,M5,dW];rw[mB aa,Y5,zo,dX aa]
     ·simp only[b,j4,dp,dV];rw[zk aa]
    ·simp[h]
   ·rfl
  ·rfl
 ·rfl
def Lq(size:Nat)(x v:ae)(m:Mem):Option Mem:=
 match x with
 |.pointer (some a)=>if v.cells.size=size then setCells m a v.cells.toList else none
 |_=>none
def Xe:=@Lq
def Xlo(size x v m):Xe size x v m=Lq size x v m:=rfl
def Vf(x:ae):Option ae:=
 match x with
 |.pointer none|.nilIface|.nilFunc=>none
 |.func (.method _) _ _=>none
 |x=>some x
def Xu:=@Vf
def Xk3(x):Xu x=Vf x:=rfl
inductive gE where
 |bool|int|str|ptr|slice|map|func|iface
 |struct (fs:List (Nat × Nat × Bool × gE))
 |no
def partOf(agg:Bool)(size a:Nat)(cs:Array ae):Option ae:=
 if agg then some (.agg (cs.extract a (a+size)))else cs[a]?
mutual
def bS:gE->ae->ae->Option Bool
 |.bool,.bool a,.bool b=>some (a==b)
 |.int,.int k a,.int d b=>if k=d then some (a==b)else none
 |.str,.string a,.string b=>some (a.data.toList==b.data.toList)
 |.ptr,.pointer none,.pointer b=>some b.isNone
 |.ptr,.pointer (some _),.pointer none=>some false
 |.slice,.slice none _ _,.slice b _ _=>some b.isNone
 |.slice,.slice (some _) _ _,.slice none _ _=>some false
 |.map,.map none,.map b=>some b.isNone
 |.map,.map (some _),.map none=>some false
 |.func,.nilFunc,.nilFunc=>some true
 |.func,.nilFunc,.func _ _ _|.func,.func _ _ _,.nilFunc=>some false
 |.iface,.nilIface,.nilIface=>some true
 |.iface,.nilIface,.iface _ _|.iface,.iface _ _,.nilIface=>some false
 |.iface,.iface t _,.iface u _=>if t=u then none else some false
 |.struct c,.agg e,.agg f=>oA c e f
 |_,_,_=>none
def oA:List (Nat × Nat × Bool × gE)->Array ae->Array ae->Option Bool
 |[],_,_=>some true
 | (c,size,agg,p)::f,d,e=>match partOf agg size c d,partOf agg size c e with
  | some a,some b=>match bS p a b with
   |some true=>oA f d e
   |r=>r
  |_,_=>none
end
def rj(d:TypeDesc):Bool:=match d with|.struct _=>true|.array _ _=>true|_=>false
def gI(P:Program):Nat->TypeId->gE
 |0,_=>.no
 | d+1,t=>match P.underlying t with
  |some .bool=>.bool
  |some (.int _)=>.int
  |some .string=>.str
  |some (.pointer _)=>.ptr
  |some (.slice _)=>.slice
  |some (.map _ _)=>.map
  |some (.func ..)=>.func
  |some (.interface _)=>.iface
  |some (.struct a)=>if P.stoodInHeld t then .no else .struct ((a.toList.filter (·.name≠ "_")).map λf=>match P.info? f.type,P.underlying f.type with
    |some i,some e=>(f.offset,i.size,rj e,gI P d f.type)
    |_,_=>(0,0,true,.no))
  | some (.array n e)=>match P.info? e,P.underlying e with
   |some i,some D=>.struct ((List.range n).map λk=>(k*i.size,i.size,rj D,gI P d e))
   |_,_=>.no
  |_=>.no
def yF:List UInt8->List UInt8->Bool
 |_,[]=>false
 |[],_::_=>true
 |a::x,b::c=>a<b||(a==b&&yF x c)
def Xz6(x:ae):Bool:=match x with|.agg _=>false|_=>true
def notNil(x g8:ae):Bool:=match x,g8 with|.nilIface,.nilIface=>false|_,_=>true
def mq(op:BinOp)(c g:Bool)(p:gE)(x g8:ae):Option ae:=
 match op,x,g8 with
 |.shl,.int k a,.int _ b=>if b<0 then none else some (.int k (k.wrap (a*2^(min b.toNat k.bits))))
 |.shr,.int k a,.int _ b=>if b<0 then none else some (.int k (a.fdiv (2^(min b.toNat k.bits))))
 |op,.int k a,.int d b =>
  if k≠d then none else
  match op with
  |.add=>some (.int k (k.wrap (a+b)))
  |.sub=>some (.int k (k.wrap (a-b)))
  |.mul=>some (.int k (k.wrap (a*b)))
  |.quo=>if b=0 then none else some (.int k (k.wrap (a.tdiv b)))
  |.rem=>if b=0 then none else some (.int k (a.tmod b))
  |.and=>some (.int k (k.wrap (BitVec.ofInt k.bits a &&& BitVec.ofInt k.bits b).toNat))
  |.or=>some (.int k (k.wrap (BitVec.ofInt k.bits a ||| BitVec.ofInt k.bits b).toNat))
  |.xor=>some (.int k (k.wrap (BitVec.ofInt k.bits a ^^^ BitVec.ofInt k.bits b).toNat))
  |.andNot=>some (.int k (k.wrap (BitVec.ofInt k.bits a &&& ~~~ BitVec.ofInt k.bits b).toNat))
  |.eql=>some (.bool (a==b))
  |.neq=>some (.bool (a != b))
  |.lss=>some (.bool (decide (a<b)))
  |.leq=>some (.bool (decide (a<=b)))
  |.gtr=>some (.bool (decide (a>b)))
  |.geq=>some (.bool (decide (a≥b)))
  |_=>none
 |op,.string a,.string b =>
  match op with
  |.add=>if a.size+b.size<2^62 then some (.string ⟨(a.data.toList++b.data.toList).toArray⟩)else none
  |.eql=>some (.bool (a.data.toList==b.data.toList))
  |.neq=>some (.bool (!(a.data.toList==b.data.toList)))
  |.lss=>some (.bool (yF a.data.toList b.data.toList))
  |.leq=>some (.bool (yF a.data.toList b.data.toList||a.data.toList==b.data.toList))
  |.gtr=>some (.bool (!(yF a.data.toList b.data.toList||a.data.toList==b.data.toList)))
  |.geq=>some (.bool (!(yF a.data.toList b.data.toList)))
  |_=>none
 |.eql,x,g8=>if(g||Xz6 x)&&(c||notNil x g8)then match bS p x g8 with|some b=>some (.bool b)|none=>none else none
 |.neq,x,g8=>if(g||Xz6 x)&&(c||notNil x g8)then match bS p x g8 with|some b=>some (.bool (!b))|none=>none else none
 |_,_,_=>none
def WY(op:BinOp)(c g:Bool)(p:gE)(k:IntKind)(a:Int)(d:IntKind)(b:Int):Option ae:=
 match MC k d with
 |false=>mq op c g p (.int k a) (.int d b)
 | true=>match op with
  |.add=>some (.int k (LV k (XbB a b)))
  |.sub=>some (.int k (LV k (XbF a b)))
  |.mul=>some (.int k (LV k (Int.mul a b)))
  |.eql=>some (.bool (FC a b))
  |.neq=>some (.bool (!(FC a b)))
  |.lss=>some (.bool (Yn a b))
  |.leq=>some (.bool (Ym a b))
  |.gtr=>some (.bool (Yn b a))
  |.geq=>some (.bool (Ym b a))
  |op=>mq op c g p (.int k a) (.int d b)
def Yc(op:BinOp)(c g:Bool)(p:gE)(x g8:ae):Option ae:=
 match x,g8 with
 |.int k a,.int d b=>WY op c g p k a d b
 | .string a,.string b=>(match op with
  |.eql=>some (.bool (Mf a.data.toList b.data.toList))
  |.neq=>some (.bool (!(Mf a.data.toList b.data.toList)))
  |op=>mq op c g p (.string a) (.string b))
 |x,g8=>mq op c g p x g8
def ints:=@WY
def bin:=@Yc
def XgF(a c g p x g8):bin a c g p x g8=Yc a c g p x g8:=rfl
def lH(d c g p x g8):bin d c g p x g8=mq d c g p x g8:=by
 rw[XgF];unfold Yc;split
 ·rename_i k a l b;unfold WY;split
  ·rfl
  ·rename_i h;rw[Xo0,gq]at h;subst h;have i:Int.sub a b=a-b:=rfl;have e:Int.add a b=a+b:=rfl;have f:Int.mul a b=a*b:=rfl;have j:¬(k≠k):=λh=>h rfl;cases d<;>simp only[mq,Xx8,Xx1,Xyb,Xvk,XhU,XfU,Xzt,XjI,XkF,i,e,f,j,dV]<;>first|rfl|simp[bne]|skip
 ·rename_i a b;cases d<;>simp only[mq,Xrx,Xpy]
 ·rfl
def un(a:UnOp)(x:ae):Option ae:=
 match a,x with
 |.neg,.int k n=>some (.int k (k.wrap (0-n)))
 |.xor,.int k n=>some (.int k (k.wrap (BitVec.ofInt k.bits (if k.signed then -1 else k.max) ^^^ BitVec.ofInt k.bits n).toNat))
 |.not,.bool b=>some (.bool !b)
 |_,_=>none
inductive Cv where
 |int (k:IntKind)|same|bytes|str|FD|no
def yv(P:Program)(src dst:TypeId):Cv:=
 match P.underlying src,P.underlying dst with
 |some (.int _),some (.int k)=>.int k
 |some .string,some .string=>.same
 |some .string,some (.slice e)=>match P.underlying e with|some (.int .u8)=>.bytes|_=>.no
 |some (.slice e),some .string=>match P.underlying e with|some (.int .u8)=>.str|_=>.no
 |some (.int _),some .string=>.FD
 |_,_=>.no
def ug:List ae->Option (List UInt8)
 |[]=>some []
 |.int .u8 n::r=>match ug r with|some l=>some (UInt8.ofNat n.toNat::l)|none=>none
 |_=>none
def conv(c:Cv)(x:ae)(m:Mem):Option (ae × Mem):=
 match c,x with
 |.int k,.int _ n=>some (.int k (k.wrap n),m)
 |.same,.string s=>some (.string s,m)
 |.FD,.int _ n=>some (.string (Utf8.encode n),m)
 |.bytes,.string s=>some (.slice (some ⟨m.next,0,some 1⟩) s.size 0,m.push (.cells (s.data.toList.map λb=>.int .u8 b.toNat) 0 0 false none))
 |.str,.slice none _ _=>some (.string ⟨#[]⟩,m)
 | .str,.slice (some a) n r=>match j0 m ⟨a.block,a.off,some (r / 2)⟩ n with
  |some cs=>match ug cs with|some l=>some (.string ⟨l.toArray⟩,m)|none=>none
  |none=>none
 |_,_=>none
def EX(cells:List ae)(a:Nat)(vs:List ae):List ae:=cells.take a++vs++cells.drop (a+vs.length)
def fill(a:Nat->Option (Nat × Nat)):List ae->List (Nat × ae)->Option (List ae)
 |cells,[]=>some cells
 | cells,(i,v)::c=>match a i with
  |some (b,size)=>if v.cells.size=size&&b+size<=cells.length then fill a (EX cells b v.cells.toList) c else none
  |none=>none
def Ff(a:Nat->Option (Nat × Nat))(cs:List ae)(ps:List (Nat × ae)):Option (List ae):=
 List.rec (motive:=λ_=>List ae->Option (List ae)) (λc=>some c) (λp _ e c=>Prod.rec (λi v=>Option.rec none (λq=>Prod.rec (λd size=>Bool.rec none (Option.rec none e (FP (yu v) c d)) (Nat.beq (FI (yu v) 0) size)) q) (a i)) p) ps cs
def V9(a):∀ps cs,Ff a cs ps=fill a cs ps
 |[],_=>rfl
 |(i,v)::ps,cs=>by
  show(Option.rec none (λq=>Prod.rec (λb size=>Bool.rec none (Option.rec none (λc=>Ff a c ps) (FP (yu v) cs b)) (Nat.beq (FI (yu v) 0) size)) q) (a i):Option (List ae))=_;simp only[fill];cases a i with
  |none=>rfl
  |some q =>
   obtain⟨b,size⟩:=q;show(Bool.rec none (Option.rec none (λc=>Ff a c ps) (FP (yu v) cs b)) (Nat.beq (FI (yu v) 0) size):Option (List ae))=_;rw[Xvr,Xs5,yW,Xwb,Xvb];simp only[V9 a ps];by_cases d:v.cells.size=size
   ·subst d;by_cases e:b+v.cells.size<=cs.length<;>simp[e,EX]
   ·simp[d]
def Yx{d:Type}(c:List d):Nat->Option d:=List.rec (motive:=λ_=>Nat->Option d) (λ_=>none) (λa _ e y=>Nat.rec (motive:=λ_=>Option d) (some a) (λk _=>e k) y) c
def Xs7{a}:∀(c:List a)(y),Yx c y=c[y]?
 |[],_=>by rw[List.getElem?_nil];rfl
 |_::_,0=>rfl
 |_::c,y+1=>by rw[List.getElem?_cons_succ,<-Xs7 c y];rfl
def WD(zero:List ae)(a:List (Nat × Nat))(parts:List (Nat × ae)):Option ae:=
 match fill (a[·]?) zero parts with|some cs=>some (.agg cs.toArray)|none=>none
def Xc(zero:List ae)(a:List (Nat × Nat))(parts:List (Nat × ae)):Option ae:=
 Option.rec none (λcs=>some (.agg ⟨cs⟩)) (Ff (Yx a) zero parts)
def Xvg(zero a parts):Xc zero a parts=WD zero a parts:=by have e:Yx a=(a[·]?):=funext λi=>Xs7 a i;unfold Xc WD;rw[V9,e];cases fill (a[·]?) zero parts<;>rfl
def fH:Nat->List ae->List ae
 |0,_=>[]
 |n+1,z=>z++fH n z
def xO(ty:Nat)(zero:List ae)(size len:Nat)(parts:List (Nat × ae))(m:Mem):Option (ae × Mem):=
 match fill (λi=>some (i*size,size)) (fH len zero) parts with
 |some cs=>if size=0 then none else some (.slice (some ⟨m.next,0,some size⟩) len 1,m.push (.cells cs 0 0 false (some (2*ty))))
 |none=>none
def X8(ty:Nat)(zero:List ae)(size len:Nat)(parts:List (Nat × ae))(m:Mem):Option (ae × Mem):=
 Option.rec none (λcs=>Nat.rec (motive:=λ_=>Option (ae × Mem)) none (λ_ _=>some (.slice (some ⟨m.next,0,some size⟩) len 1,m.push (.cells cs 0 0 false (some (Nat.mul 2 ty))))) size) (Ff (λi=>some (Nat.mul i size,size)) (fH len zero) parts)
def Em(ty zero size len parts m):X8 ty zero size len parts m=xO ty zero size len parts m:=by
 unfold X8 xO;rw[V9];show(Option.rec none _ (fill (λi=>some (i*size,size)) (fH len zero) parts):Option (ae × Mem))=_;cases fill (λi=>some (i*size,size)) (fH len zero) parts with
 |none=>rfl
 |some cs=>cases size<;>rfl
def XD(agg:Bool)(size a:Nat)(x:ae):Option ae:=
 match x with|.agg cs=>partOf agg size a cs|_=>none
def U2(b:Nat)(x:ae):Option ae:=
 match x with|.pointer (some a)=>some (.pointer (some ⟨a.block,a.off+b,a.spot⟩))|_=>none
def Xm:=@U2
def Xiu(a x):Xm a x=U2 a x:=rfl
def vC(len size:Nat)(x i:ae):Option ae:=
 match x,i with
 |.pointer (some a),.int _ n=>if 0<=n&&n<len then some (.pointer (some ⟨a.block,a.off+n.toNat*size,a.spot⟩))else none
 |_,_=>none
def UT(size:Nat)(x i:ae):Option ae:=
 match x,i with
 |.slice (some a) len r,.int _ n=>if 0<=n&&n<len&&a.spot=some size then some (.pointer (some ⟨a.block,a.off+n.toNat*size,some (r / 2)⟩))else none
 |_,_=>none
def UX(size:Nat)(x i:ae):Option ae:=
 match x,i with
 | .slice (some a) len r,.int _ n=>(match n with
  |.ofNat b=>(match Nat.blt b len&&yr a.spot size with|true=>some (.pointer (some ⟨a.block,a.off+b*size,some (r / 2)⟩))|false=>none)
  |.negSucc _=>none)
 |_,_=>none
def Xd:=@UX
def Ko(size x i):Xd size x i=UX size x i:=rfl
def Xfh(size x i):Xd size x i=UT size x i:=by
 rw[Ko];unfold UX UT;split
 ·rename_i a len r _ n;cases n with
  |ofNat b =>simp only[pD,xT];have e:(0:Int)<=Int.ofNat b:=wO b;by_cases c:b<len<;>by_cases d:a.spot=some size<;>simp[c,d]
  |negSucc b=>simp
 ·rfl
def Vn(x i:ae):Option ae:=
 match x,i with
 |.string s,.int _ n=>if 0<=n then match s.data.toList[n.toNat]? with|some b=>some (.int .u8 b.toNat)|none=>none else none
 |_,_=>none
def Xi:=@Vn
def Xdx(x i):Xi x i=Vn x i:=rfl
def E2(x:Option ae)(a b:Nat):Option Nat:=
 match x with
 |none=>some a
 |some (.int _ n)=>if 0<=n&&n<=b then some n.toNat else none
 |_=>none
def bound(x:Option ae)(a b:Nat):Option Nat:=
 match x with
 |none=>some a
 | some (.int _ n)=>(match n with
  |.ofNat c=>(match Nat.ble c b with|true=>some c|false=>none)
  |.negSucc _=>none)
 |_=>none
def V1(x a b):bound x a b=E2 x a b:=by
 unfold bound E2;split
 ·rfl
 ·rename_i _ n;cases n with
  |ofNat c =>simp only[Yw];by_cases d:c<=b<;>simp[d]
  |negSucc c=>simp
 ·rfl
def Vo(x:ae)(lo hi:Option ae):Option ae:=
 match x with
 | .string s=>match bound hi s.size s.size with
  | some h=>match bound lo 0 h with
   |some l=>some (.string ⟨((s.data.toList.take h).drop l).toArray⟩)
   |none=>none
  |none=>none
 |_=>none
def gH:=@Vo
def U0(x lo hi):gH x lo hi=Vo x lo hi:=rfl
def qc(size:Nat)(x:ae)(lo hi:Option ae):Option ae:=
 match x with
 | .slice (some a) n r=>match bound hi n n with
  | some h=>match bound lo 0 h with
   |some l=>if a.spot=some size then some (.slice (some ⟨a.block,a.off+l*size,a.spot⟩) (h-l) (if h=n then r else r / 2*2))else none
   |none=>none
  |none=>none
 | .slice none _ _=>match bound hi 0 0 with
  | some h=>match bound lo 0 h with
   |some _=>some (.slice none 0 0)
   |none=>none
  |none=>none
 |_=>none
def vF(len size:Nat)(x:ae)(lo hi:Option ae)(m:Mem):Option ae:=
 match x with
 | .pointer (some ⟨b,y,some r⟩)=>match j0 m ⟨b,y,some r⟩ (len*size)with
  |none=>none
  | some _=>match bound hi len len with
   | some h=>match bound lo 0 h with
    |some l=>if Nat.ble 1 size then some (.slice (some ⟨b,y+l*size,some size⟩) (h-l) (if h=len then 2*r+1 else 2*r))else none
    |none=>none
   |none=>none
 |_=>none
def Vx(x:ae)(i:Nat):Option ae:=match x with|.tuple vs=>vs[i]?|_=>none
def yd:=@Vx
def Xme(x i):yd x i=Vx x i:=rfl
def uT(a b:ae):Bool:=
 match a,b with
 |.bool x,.bool c=>x==c
 |.int k x,.int l c=>decide (k=l)&&decide (x=c)
 |.string x,.string c=>decide (x=c)
 |_,_=>false
def wI:List ae->List ae->Bool
 |[],[]=>true
 |a::l,b::r=>uT a b&&wI l r
 |_,_=>false
def pG(a b:ae):Bool:=
 match a,b with
 |.agg x,.agg c=>wI x.toList c.toList
 |a,b=>uT a b
def om(p:gE)(k:ae):List (ae × ae × Nat)->Nat->Option (Option Nat)
 |[],_=>some none
 | (a,_,_)::r,i=>match bS p k a with
  |some true=>some (some i)
  |some false=>om p k r (i+1)
  |none=>none
def Mo(a b:ae):Option Bool:=M2 a λk x=>M2 b λd c=>Bool.rec none (some (FC x c)) (MC k d)
def Xzb(a b):Mo a b=bS .int a b:=by
 unfold Mo;rw[Xtu];cases a<;>first|rfl|skip
 rename_i k x;show M2 b _=_;rw[Xtu];cases b<;>first|rfl|skip
 rename_i c d;show(Bool.rec none (some (FC x d)) (MC k c):Option Bool)=bS .int (.int k x) (.int c d);rw[Xo0,Xvk,Xzt];simp only[bS];by_cases h:k=c<;>simp[h]
def gw(p:gE)(a b:ae):Option Bool:=gE.casesOn (motive_1:=λ_=>Option Bool) p (bS .bool a b) (Mo a b) (bS .str a b) (bS .ptr a b) (bS .slice a b) (bS .map a b) (bS .func a b) (bS .iface a b) (λd=>bS (.struct d) a b) (bS .no a b)
def XjD(p a b):gw p a b=bS p a b:=by cases p<;>first|rfl|exact Xzb a b
def BV(g h:List ae)(i:List (Nat × Nat × Bool × gE)):Option Bool:=
 List.rec (motive:=λ_=>Option Bool) (some true) (λf _ j=>Prod.rec (motive:=λ_=>Option Bool) (λe r=>Prod.rec (motive:=λ_=>Option Bool) (λsize r=>Prod.rec (motive:=λ_=>Option Bool) (λagg p =>Option.rec none (λa=>Option.rec none (λb=>Option.rec none (λc=>Bool.rec (some false) j c) (gw p a b)) (Bool.rec (uN h e) (partOf true size e ⟨h⟩) agg)) (Bool.rec (uN g e) (partOf true size e ⟨g⟩) agg)) r) r) f) i
def Xsq(agg size a b):(Bool.rec (uN b a) (partOf true size a ⟨b⟩) agg:Option ae)=partOf agg size a ⟨b⟩:=by
 cases agg
 ·show uN b a=_;rw[K5];simp[partOf]
 ·rfl
def Xu5(e f):∀g:List (Nat × Nat × Bool × gE),BV e f g=oA g ⟨e⟩ ⟨f⟩
 |[]=>by simp only[oA];rfl
 |(d,size,agg,p)::g=>by
  show(Option.rec none (λa=>Option.rec none (λb=>Option.rec none (λc=>Bool.rec (some false) (BV e f g) c) (gw p a b)) (Bool.rec (uN f d) (partOf true size d ⟨f⟩) agg)) (Bool.rec (uN e d) (partOf true size d ⟨e⟩) agg):Option Bool)=_;rw[Xsq,Xsq,Xu5 e f g];simp only[oA];cases partOf agg size d ⟨e⟩with
  |none=>rfl
  |some a =>
   cases partOf agg size d ⟨f⟩with
   |none=>rfl
   |some b =>
    show(Option.rec none (λc=>Bool.rec (some false) _ c) (gw p a b):Option Bool)=_;rw[XjD];show _=(match bS p a b with|some true=>oA g ⟨e⟩ ⟨f⟩|r=>r)
    cases bS p a b with
    |none=>rfl
    |some c=>cases c<;>rfl
def Fe(v:ae)(f:List ae->Option Bool):Option Bool:=v.casesOn (λ_=>none) (λ_ _=>none) (λ_ _=>none) (λ_ _ _=>none) (λ_=>none) (λ_=>none) (λ_ _ _=>none) (λ_=>none) (λ_=>none) (λ_ _ _=>none) (none) (λ_ _=>none) (none) (λa=>f a.toList) (λ_=>none)
def XV(p:gE)(a b:ae):Option Bool:=gE.casesOn (motive_1:=λ_=>Option Bool) p (bS .bool a b) (Mo a b) (bS .str a b) (bS .ptr a b) (bS .slice a b) (bS .map a b) (bS .func a b) (bS .iface a b) (λd=>Fe a λe=>Fe b λf=>BV e f d) (bS .no a b)
def XfV(p a b):XV p a b=bS p a b:=by
 cases p<;>first|rfl|exact Xzb a b|skip
 rename_i e;show Fe a (λd=>Fe b λc=>BV d c e)=_;cases a<;>first|rfl|skip
 rename_i d;show Fe b (λc=>BV d.toList c e)=_;cases b<;>first|rfl|skip
 rename_i c;show BV d.toList c.toList e=_;rw[Xu5];simp only[bS]
def K8(p:gE)(k:ae)(c:List (ae × ae × Nat))(i:Nat):Option (Option Nat):=
 List.rec (motive:=λ_=>Nat->Option (Option Nat)) (λ_=>some none) (λe _ d i=>Prod.rec (motive:=λ_=>Option (Option Nat)) (λf _=>Option.rec none (λb=>Bool.rec (d (Nat.succ i)) (some (some i)) b) (XV p k f)) e) c i
def AW(p k):∀a i,K8 p k a i=om p k a i
 |[],i=>rfl
 |(c,v,n)::a,i=>by
  show(Option.rec none (λb=>Bool.rec (K8 p k a (i+1)) (some (some i)) b) (XV p k c):Option (Option Nat))=_;rw[XfV,AW p k a (i+1)];simp only[om];cases bS p k c with
  |none=>rfl
  |some b=>cases b<;>rfl
def EV(zero:ae)(ok:Bool)(r:Option ae):ae:=
 match ok,r with
 |true,some v=>.tuple #[v,.bool true]
 |true,none=>.tuple #[zero,.bool false]
 |false,some v=>v
 |false,none=>zero
def uu(p:gE)(zero:ae)(ok:Bool)(x k:ae)(m:Mem):Option ae:=
 if pG k k&&(match bS p k k with|some true=>true|_=>false)then
 match x with
 |.map none=>some (EV zero ok none)
 | .map (some b)=>match m.get b with
  | some (.map a _)=>match K8 p k a 0 with
   |some none=>some (EV zero ok none)
   | some (some i)=>match a[i]? with
    |some e=>some (EV zero ok (some e.2.1))
    |none=>none
   |none=>none
  |_=>none
 |_=>none
 else none
def vE(p:gE)(x k v:ae)(m:Mem):Option Mem:=
 if pG k k&&(match bS p k k with|some true=>true|_=>false)then
 match x with
 | .map (some b)=>match m.get b with
  | some (.map c a)=>match K8 p k c 0 with
   |some none=>some (m.put b (.map (c++[(k,v,a)]) (a+1)))
   | some (some i)=>match c[i]? with
    |some e=>if pG e.1 k then some (m.put b (.map (c.set i (k,v,e.2.2)) a))else none
    |none=>none
   |none=>none
  |_=>none
 |_=>none
 else none
def A4(m:Mem):ae × Mem:=(.map (some m.next),m.push (.map [] 0))
def fits(n bytes:Nat):Bool:=Nat.ble (n*bytes) 140737488355328&&Nat.ble n 4611686018427387904
def xQ(ty:Nat)(zero:List ae)(size bytes:Nat)(len o:ae)(m:Mem):Option (ae × Mem):=
 match len,o with
 | .int _ l,.int _ c=>if decide (0<=l)&&decide (l<=c)&&fits c.toNat bytes&&Nat.ble 1 size then
   some (.slice (some ⟨m.next,0,some size⟩) l.toNat (if l=c then 1 else 0),m.push (.cells (fH l.toNat zero) 0 0 false (some (2*ty))))else none
 |_,_=>none
def yb(x:ae)(m:Mem):Option (ae × Mem):=
 match x with
 |.string s=>some (.pointer (some ⟨m.next,0,some 0⟩),m.push (.dM s 0))
 |_=>none
def uk(x:ae)(m:Mem):Option (ae × Mem):=
 match x with
 | .pointer (some ⟨b,0,_⟩)=>match m.get b with
  | some (.dM s pos)=>if pos<s.size then
    let (c,w):=Utf8.decode s pos
    some (.tuple #[.bool true,.int .i64 pos,.int .i32 c],m.put b (.dM s (pos+w)))
   else some (.tuple #[.bool false],m)
  |_=>none
 |_=>none
def BI(x:ae)(m:Mem):Option ae:=
 match x with
 |.string s=>some (.int .i64 s.size)
 |.slice _ n _=>some (.int .i64 n)
 |.map none=>some (.int .i64 0)
 |.map (some b)=>match m.get b with|some (.map a _)=>some (.int .i64 a.length)|_=>none
 |_=>none
def pF(ty:Option Nat)(e:Nat):Option Nat:=match ty with|some t=>bif Nat.beq t e then some t else none|none=>none
def jG(size n:Nat)(x:ae)(m:Mem):Option (List ae):=
 match x with
 |.slice (some a) _ r=>if a.spot=some size then j0 m ⟨a.block,a.off,some (r / 2)⟩ (n*size)else none
 |.slice none _ _=>if n=0 then some []else none
 |.string s=>some ((s.data.toList.take n).map λb=>.int .u8 b.toNat)
 |_=>none
def yB(m:Mem)(a b:Addr):Option Bool:=
 if a.block=b.block then
  match m.get a.block with
  |some (.cells _ ver _ _ _)=>if decide (a.spot=some ver)&&decide (b.spot=some ver)&&decide (a.off=b.off)then some true else none
  |_=>none
 else none
def BL(m:Mem)(d:BinOp)(c g:Bool)(p:gE)(x g8:ae):Option ae:=
 match p,d,x,g8 with
 |.ptr,.eql,.pointer (some a),.pointer (some b)=>match yB m a b with|some r=>some (.bool r)|none=>none
 |.ptr,.neq,.pointer (some a),.pointer (some b)=>match yB m a b with|some r=>some (.bool (!r))|none=>none
 |_,_,_,_=>bin d c g p x g8
def kC(x:ae):Option Nat:=match x with|.slice _ n _=>some n|.string s=>some s.size|_=>none
def j5(e size bytes:Nat)(s x:ae)(m:Mem):Option (ae × Mem):=
 match kC x with
 |none=>none
 | some n=>match jG size n x m with
  |none=>none
  |some new =>
   if !(new.all one&&Nat.ble 1 size)then none else
   match s with
   | .slice none len c=>if n=0 then some (.slice none len c,m)else
     if fits n bytes then some (.slice (some ⟨m.next,0,some size⟩) n 0,m.push (.cells new 0 0 false (some (2*e))))else none
   |.slice (some a) len r =>
    match m.get a.block with
    |some (.cells c ver b ro ty) =>
     if !(a.spot==some size&&Nat.beq (r / 2) ver&&Nat.ble (a.off+len*size) c.length&&fits (len+n) bytes)then none else
      if n=0 then some (s,m)else
      if r%2=1 then some (.slice (some ⟨m.next,0,some size⟩) (len+n) 0,m.push (.cells ((c.drop a.off).take (len*size)++new) 0 0 false (some (2*e))))else
      if Nat.ble b (a.off+len*size)&&!ro then
       some (.slice (some a) (len+n) (2*(ver+1)),m.put a.block (.cells (c.take (a.off+len*size)++new) (ver+1) b false (pF ty (2*e))))
      else none
    |_=>none
   |_=>none
def fP:=@j5
def wy(x g8:ae):Option ae:=match x,g8 with|.int k a,.int c b=>if k=c then some (.int k (if b>a then b else a))else none|_,_=>none
def Mb(x g8:ae):Option ae:=match x,g8 with|.int k a,.int c b=>if k=c then some (.int k (if b<a then b else a))else none|_,_=>none
def u0:ae:=.tuple #[]
def u1:ae:=u0
def u2:ae:=u1
def u3:ae:=u2
def u4:ae:=u3
def u5:ae:=u4
def u6:ae:=u5
def u7:ae:=u6
def u8:ae:=u7
def u9:ae:=u8
def M0:ae:=u9
def M1:ae:=M0
def u12:ae:=M1
def u13:ae:=u12
def u14:ae:=u13
def u15:ae:=u14
def u16:ae:=u15
def u17:ae:=u16
def u18:ae:=u17
def u19:ae:=u18
def u20:ae:=u19
def u21:ae:=u20
def u22:ae:=u21
def u23:ae:=u22
def u24:ae:=u23
def u25:ae:=u24
def u26:ae:=u25
def u27:ae:=u26
def u28:ae:=u27
def u29:ae:=u28
def u30:ae:=u29
def u31:ae:=u30
def u32:ae:=u31
def u33:ae:=u32
def u34:ae:=u33
def u35:ae:=u34
def u36:ae:=u35
def u37:ae:=u36
def u38:ae:=u37
def u39:ae:=u38
def u40:ae:=u39
def u41:ae:=u40
def u42:ae:=u41
def u43:ae:=u42
def u44:ae:=u43
def u45:ae:=u44
def u46:ae:=u45
def u47:ae:=u46
def u48:ae:=u47
def u49:ae:=u48
def u50:ae:=u49
def u51:ae:=u50
def u52:ae:=u51
def u53:ae:=u52
def u54:ae:=u53
def u55:ae:=u54
def u56:ae:=u55
def u57:ae:=u56
def u58:ae:=u57
def u59:ae:=u58
def u60:ae:=u59
def u61:ae:=u60
def u62:ae:=u61
def u63:ae:=u62
def u64:ae:=u63
def u65:ae:=u64
def u66:ae:=u65
def u67:ae:=u66
def u68:ae:=u67
def u69:ae:=u68
def u70:ae:=u69
def u71:ae:=u70
def u72:ae:=u71
def u73:ae:=u72
def u74:ae:=u73
def u75:ae:=u74
def u76:ae:=u75
def u77:ae:=u76
def u78:ae:=u77
def u79:ae:=u78
def u80:ae:=u79
def u81:ae:=u80
def u82:ae:=u81
def u83:ae:=u82
def u84:ae:=u83
def u85:ae:=u84
def u86:ae:=u85
def u87:ae:=u86
def u88:ae:=u87
def u89:ae:=u88
def u90:ae:=u89
def u91:ae:=u90
def u92:ae:=u91
def u93:ae:=u92
def u94:ae:=u93
def u95:ae:=u94
def u96:ae:=u95
def u97:ae:=u96
def u98:ae:=u97
def u99:ae:=u98
def XsE:ae:=u99
def XsF:ae:=XsE
def XsG:ae:=XsF
def XsH:ae:=XsG
def XsI:ae:=XsH
def XsJ:ae:=XsI
def XsK:ae:=XsJ
def XsL:ae:=XsK
def XsM:ae:=XsL
def XsN:ae:=XsM
def XsO:ae:=XsN
def XsP:ae:=XsO
def XsQ:ae:=XsP
def XsR:ae:=XsQ
def XsS:ae:=XsR
def XsT:ae:=XsS
def XsU:ae:=XsT
def XsV:ae:=XsU
def XsW:ae:=XsV
def XsX:ae:=XsW
def XsY:ae:=XsX
def XsZ:ae:=XsY
def XtA:ae:=XsZ
def XtB:ae:=XtA
def XtC:ae:=XtB
def XtD:ae:=XtC
def XtE:ae:=XtD
def XtF:ae:=XtE
def XtG:ae:=XtF
def XtH:ae:=XtG
def XtI:ae:=XtH
def XtJ:ae:=XtI
def XtK:ae:=XtJ
def XtL:ae:=XtK
def XtM:ae:=XtL
def XtN:ae:=XtM
def XtO:ae:=XtN
def XtP:ae:=XtO
def XtQ:ae:=XtP
def XtR:ae:=XtQ
def XtS:ae:=XtR
def XtT:ae:=XtS
def XtU:ae:=XtT
def XtV:ae:=XtU
def XtW:ae:=XtV
def XtX:ae:=XtW
def XtY:ae:=XtX
def XtZ:ae:=XtY
def XuA:ae:=XtZ
def XuB:ae:=XuA
def XuC:ae:=XuB
def XuD:ae:=XuC
def XuE:ae:=XuD
def XuF:ae:=XuE
def XuG:ae:=XuF
def XuH:ae:=XuG
def XuI:ae:=XuH
def XuJ:ae:=XuI
def XuK:ae:=XuJ
def XuL:ae:=XuK
def XuM:ae:=XuL
def XuN:ae:=XuM
def XuO:ae:=XuN
def XuP:ae:=XuO
def XuQ:ae:=XuP
def XuR:ae:=XuQ
def XuS:ae:=XuR
def XuT:ae:=XuS
def XuU:ae:=XuT
def XuV:ae:=XuU
def XuW:ae:=XuV
def XuX:ae:=XuW
def XuY:ae:=XuX
def XuZ:ae:=XuY
def XvA:ae:=XuZ
def XvB:ae:=XvA
def XvC:ae:=XvB
def XvD:ae:=XvC
def XvE:ae:=XvD
def XvF:ae:=XvE
def XvG:ae:=XvF
def XvH:ae:=XvG
def XvI:ae:=XvH
def XvJ:ae:=XvI
def XvK:ae:=XvJ
def XvL:ae:=XvK
def XvM:ae:=XvL
def XvN:ae:=XvM
def XvO:ae:=XvN
def XvP:ae:=XvO
def XvQ:ae:=XvP
def XvR:ae:=XvQ
def XvS:ae:=XvR
def XvT:ae:=XvS
def XvU:ae:=XvT
def XvV:ae:=XvU
def XvW:ae:=XvV
def XvX:ae:=XvW
def XvY:ae:=XvX
def XvZ:ae:=XvY
def XwA:ae:=XvZ
def XwB:ae:=XwA
def XwC:ae:=XwB
def XwD:ae:=XwC
def XwE:ae:=XwD
def XwF:ae:=XwE
def XwG:ae:=XwF
def XwH:ae:=XwG
def XwI:ae:=XwH
def XwJ:ae:=XwI
def XwK:ae:=XwJ
def XwL:ae:=XwK
def XwM:ae:=XwL
def XwN:ae:=XwM
def XwO:ae:=XwN
def XwP:ae:=XwO
def XwQ:ae:=XwP
def XwR:ae:=XwQ
def XwS:ae:=XwR
def XwT:ae:=XwS
def XwU:ae:=XwT
def XwV:ae:=XwU
def XwW:ae:=XwV
def XwX:ae:=XwW
def XwY:ae:=XwX
def XwZ:ae:=XwY
def XxA:ae:=XwZ
def XxB:ae:=XxA
def XxC:ae:=XxB
def XxD:ae:=XxC
def XxE:ae:=XxD
def XxF:ae:=XxE
def XxG:ae:=XxF
def XxH:ae:=XxG
def XxI:ae:=XxH
def XxJ:ae:=XxI
def XxK:ae:=XxJ
def XxL:ae:=XxK
def XxM:ae:=XxL
def XxN:ae:=XxM
def XxO:ae:=XxN
def XxP:ae:=XxO
def XxQ:ae:=XxP
def XxR:ae:=XxQ
def XxS:ae:=XxR
def XxT:ae:=XxS
def XxU:ae:=XxT
def XxV:ae:=XxU
def XxW:ae:=XxV
def XxX:ae:=XxW
def XxY:ae:=XxX
def XxZ:ae:=XxY
def XyA:ae:=XxZ
def XyB:ae:=XyA
def XyC:ae:=XyB
def XyD:ae:=XyC
def XyE:ae:=XyD
def XyF:ae:=XyE
def XyG:ae:=XyF
def XyH:ae:=XyG
def XyI:ae:=XyH
def XyJ:ae:=XyI
def XyK:ae:=XyJ
def XyL:ae:=XyK
def XyM:ae:=XyL
def XyN:ae:=XyM
def XyO:ae:=XyN
def XyP:ae:=XyO
def XyQ:ae:=XyP
def XyR:ae:=XyQ
def XyS:ae:=XyR
def XyT:ae:=XyS
def XyU:ae:=XyT
def XyV:ae:=XyU
def XyW:ae:=XyV
def XyX:ae:=XyW
def XyY:ae:=XyX
def XyZ:ae:=XyY
def XzA:ae:=XyZ
def XzB:ae:=XzA
def XzC:ae:=XzB
def XzD:ae:=XzC
def XzE:ae:=XzD
def XzF:ae:=XzE
def XzG:ae:=XzF
def XzH:ae:=XzG
def XzI:ae:=XzH
def XzJ:ae:=XzI
def XzK:ae:=XzJ
def XzL:ae:=XzK
def XzM:ae:=XzL
def XzN:ae:=XzM
def XzO:ae:=XzN
def XzP:ae:=XzO
def XzQ:ae:=XzP
def XzR:ae:=XzQ
def XzS:ae:=XzR
def XzT:ae:=XzS
def XzU:ae:=XzT
def XzV:ae:=XzU
def XzW:ae:=XzV
def fw{a:Type}:Option a:=none
def pk(c a b:ae)(m:Mem):Option (ae × Mem):=match c with|.bool true=>some (a,m)|.bool false=>some (b,m)|_=>none
def ke{d}(v:ae)(a b:Option d):Option d:=v.casesOn (λc=>Bool.rec b a c) (λ_ _=>fw) (λ_ _=>fw) (λ_ _ _=>fw) (λ_=>fw) (λ_=>fw) (λ_ _ _=>fw) (λ_=>fw) (λ_=>fw) (λ_ _ _=>fw) (fw) (λ_ _=>fw) (fw) (λ_=>fw) (λ_=>fw)
def Xzu{d}(v)(a b:Option d):ke v a b=match v with|.bool true=>a|.bool false=>b|_=>fw:=by cases v<;>first|rfl|(rename_i c;cases c<;>rfl)
def brs{b}(v:ae)(a:Option b):Option b:=match v with|.tuple ⟨[]⟩=>a|_=>fw
def Ms(v:ae)(a:Bool):Option Bool:=match v with|.bool b=>some (b==a)|.tuple ⟨[]⟩=>some false|_=>none
def BP{b}(x:Option Bool)(a s:Option b):Option b:=match x with|none=>fw|some true=>a|some false=>s
def sZ{c}(v:ae)(a b s:Option c):Option c:=match v with|.bool true=>a|.bool false=>b|.tuple ⟨[]⟩=>s|_=>fw
def YD{d}(v a b:ae)(m:Mem)(k:ae->Mem->Option d):Option d:=v.casesOn (λc=>Bool.rec (k b m) (k a m) c) (λ_ _=>fw) (λ_ _=>fw) (λ_ _ _=>fw) (λ_=>fw) (λ_=>fw) (λ_ _ _=>fw) (λ_=>fw) (λ_=>fw) (λ_ _ _=>fw) (fw) (λ_ _=>fw) (fw) (λ_=>fw) (λ_=>fw)
def XlP{d}(v a b m)(k:ae->Mem->Option d):YD v a b m k=match v with|.bool true=>k a m|.bool false=>k b m|_=>fw:=by cases v<;>first|rfl|(rename_i c;cases c<;>rfl)
def tb{a}(c:Bool)(x:Option a):Option a:=match c with|true=>x|false=>fw
def brc(x:Option Bool)(a s:Bool):Bool:=match x with|none=>false|some true=>a|some false=>s
def dn(e size bytes:Nat)(s x:ae)(m:Mem):Option (ae × Mem):=match x with|.string _=>none|_=>fP e size bytes s x m
end Go.Ab
namespace Go.Ab
def sN{c:Type}(a b:Nat)(x g8:c):(bif Nat.beq a b then x else g8)=if a=b then x else g8:=by simp
def Tr.aX{g}:∀f t p q (x:g),1<=p->1<=q->p<=f->(Tr.put f t p x).get q=if p=q then some x else t.get q
 |0,_,p,_,_,e,_,hf=>aa
 |f+1,.nil,p,q,x,e,h,hf=>by
  have i:=λa b c=>Tr.aX f (.nil) (p / 2) (q / 2) x a b c;simp only[Tr.XrS,sN,Tr.get_nil]at i|-;by_cases a:p=1
  ·rw[ah a];simp only[Tr.yN,Tr.get_nil,sN]
   grind
  ·rw[af a];by_cases d:p%2=0
   ·rw[ah d];simp only[Tr.yN,Tr.get_nil,sN]
    grind
   ·rw[af d];simp only[Tr.yN,Tr.get_nil,sN]
    grind
 |f+1,.node v l r,p,q,x,e,h,hf=>by
  have j:=λa b c=>Tr.aX f l (p / 2) (q / 2) x a b c;have k:=λa b c=>Tr.aX f r (p / 2) (q / 2) x a b c;simp only[Tr.XrT,sN];by_cases a:p=1
  ·rw[ah a];simp only[Tr.yN,sN]
   grind
  ·rw[af a];by_cases d:p%2=0
   ·rw[ah d];simp only[Tr.yN,sN]
    grind
   ·rw[af d];simp only[Tr.yN,sN]
    grind
def Mem.XqV(m:Mem)(b c y):(m.FM b y).get c=if b=c then some y.norm else m.get c:=by
 rw[Mem.MS,Mem.Mr,Mem.Mr];show(Tr.get (Tr.put (b+1) _ _ y) _).map _=_;rw[Tr.aX _ _ _ _ _ aa aa aY]
 grind
def Mem.aX(m:Mem)(b c y):(m.put b y).get c=if b=c then some y else m.get c:=Mem.XqV m b c (.plain y)
def Mem.bV(m:Mem)(c y):(m.push y).get c=if m.next=c then some y else m.get c:=by
 rw[Mem.Mr,Mem.Mr];unfold Mem.push;show(Tr.get (Tr.put (m.next+1) _ (m.next+1) _) _).map _=_;rw[Tr.aX _ _ _ _ _ aa aa aY];by_cases h:m.next=c
 ·simp[h];rfl
 grind
structure sn (m S:Mem):Prop where
 next:S.next=m.next
 low:S.low=m.low
 get:∀b,S.get b=m.get b
def sn.refl(m):sn m m:=⟨rfl,rfl,λ_=>rfl⟩
@[simp] theorem Mem.XAh(m:Mem)(b y):(m.FM b y).next=m.next:=by rw[Mem.MS]
@[simp] theorem Mem.XAf(m:Mem)(b y):(m.FM b y).low=min m.low b:=by rw[Mem.MS]
@[simp] theorem Mem.ij(m:Mem)(b y):(m.put b y).next=m.next:=by rw[Mem.XeA]
def Xki{m S a vs}(h:setCells m a vs=some S):∃b,A0 m a vs=some b/\sn b S:=⟨S,h,.refl _⟩
def Xm2{e size bytes s x v m S}(h:fP e size bytes s x m=some (v,S)):∃a,j5 e size bytes s x m=some (v,a)/\sn a S:=⟨S,h,.refl _⟩
@[simp] theorem Mem.XAg(m:Mem)(y):(m.push y).next=m.next+1:=rfl
@[simp] theorem Mem.kI(m:Mem)(b y):(m.put b y).low=min m.low b:=by rw[Mem.XeA]
@[simp] theorem Mem.XAe(m:Mem)(y):(m.push y).low=m.low:=rfl
structure Pl where
 aF:Nat
 lo:Nat
 cb:Nat
 size:Nat
 ver:Nat
 ro:Bool
abbrev az:=Nat->Option Pl
mutual
inductive aG (j:az):Value->Value->Prop where
 |bool (b:Bool):aG j (.bool b) (.bool b)
 |int (k:IntKind) (n:Int):aG j (.int k n) (.int k n)
 |float (k:FloatKind) (b:Nat):aG j (.float k b) (.float k b)
 |string (s:ByteArray):aG j (.string s) (.string s)
 |nilPtr:aG j (.pointer none) (.pointer none)
 | ptr (b y r B O:Nat) (pl:Pl) (h:j b=some pl) (hr:r<=pl.ver) (hp:r=pl.ver->B=pl.aF/\pl.lo<=y/\O=pl.cb+(y-pl.lo)) :
   aG j (.pointer (some ⟨b,y,some r⟩)) (.pointer (some ⟨B,O,none⟩))
 |qx:aG j (.slice none 0 0) (.slice none 0 0)
 | slice (b y es n t B O o:Nat) (pl:Pl) (h:j b=some pl) (hes:1<=es) (hn:n<=o) (hr:t / 2<=pl.ver)
   (hp:t / 2=pl.ver->(o=0\/(B=pl.aF/\pl.lo<=y/\O=pl.cb+(y-pl.lo)/\O+o*es<=pl.size))/\(t%2=1->o=n)) :
   aG j (.slice (some ⟨b,y,some es⟩) n t) (.slice (some ⟨B,O,none⟩) n o)
 |yX:aG j (.map none) (.map none)
 |map (b R:Nat) (pl:Pl) (h:j b=some pl) (hp:pl.ver=0->R=pl.aF):aG j (.map (some b)) (.map (some R))
 |func (f:Fn) (a c a' c':Array Value) (ha:bu j a.toList a'.toList) (hc:bu j c.toList c'.toList):aG j (.func f a c) (.func f a' c')
 |nilFunc:aG j .nilFunc .nilFunc
 |iface (t:TypeId) (v v':Value) (h:aG j v v'):aG j (.iface t v) (.iface t v')
 |nilIface:aG j .nilIface .nilIface
 |agg (a a':Array Value) (h:bu j a.toList a'.toList):aG j (.agg a) (.agg a')
 |tuple (a a':Array Value) (h:bu j a.toList a'.toList):aG j (.tuple a) (.tuple a')
inductive bu (j:az):List Value->List Value->Prop where
 |nil:bu j [] []
 |cons (v v':Value) (l l':List Value) (h:aG j v v') (hl:bu j l l'):bu j (v::l) (v'::l')
end
def az.le(j c:az):Prop:=∀b pl,j b=some pl->∃a,c b=some a/\(a=pl\/pl.ver<a.ver)
def az.le.refl(j:az):j.le j:=λ_ pl h=>⟨pl,h,.inl rfl⟩
def az.le.trans{a b c:az}(h:a.le b)(k:b.le c):a.le c:=λx pl e=>by
 obtain⟨f,d,e1⟩:=h x pl e;obtain⟨i,g,e2⟩:=k x f d
 grind
mutual
def aG.mono{j w}(h:j.le w):∀{a c:ae},aG j a c->aG w a c
 |_,_,.bool b=>.bool b
 |_,_,.int k n=>.int k n
 |_,_,.float k b=>.float k b
 |_,_,.string s=>.string s
 |_,_,.nilPtr=>.nilPtr
 |_,_,.ptr b y r B O pl m u q=>by
  obtain⟨d,g,e⟩:=h b pl m;rcases e with rfl|e
  ·exact .ptr b y r B O _ g u q
  ·exact .ptr b y r B O d g aa (λx=>aa)
 |_,_,.qx=>.qx
 |_,_,.slice b y z n t B O o pl m p hn u q=>by
  obtain⟨d,g,e⟩:=h b pl m;rcases e with rfl|e
  ·exact .slice b y z n t B O o _ g p hn u q
  ·exact .slice b y z n t B O o d g p hn aa (λx=>aa)
 |_,_,.yX=>.yX
 |_,_,.map b R pl m q=>by
  obtain⟨d,g,e⟩:=h b pl m;rcases e with rfl|e
  ·exact .map b R _ g q
  ·exact .map b R d g (λx=>aa)
 |_,_,.func f a c i A l C=>.func f a c i A (bu.mono h l) (bu.mono h C)
 |_,_,.nilFunc=>.nilFunc
 |_,_,.iface t v E D=>.iface t v E (aG.mono h D)
 |_,_,.nilIface=>.nilIface
 |_,_,.agg a i l=>.agg a i (bu.mono h l)
 |_,_,.tuple a i l=>.tuple a i (bu.mono h l)
def bu.mono{j b}(h:j.le b):∀{a c:List ae},bu j a c->bu b a c
 |_,_,.nil=>.nil
 |_,_,.cons v g l f e d=>.cons v g l f (aG.mono h e) (bu.mono h d)
end
mutual
def aG.back{j A}(h:∀b pl,j b=some pl->A b=some pl):∀{a D c:ae},aG j a D->aG A a c->aG j a c
 |_,_,_,.bool b,.bool _=>.bool b
 |_,_,_,.int k n,.int _ _=>.int k n
 |_,_,_,.float k b,.float _ _=>.float k b
 |_,_,_,.string s,.string _=>.string s
 |_,_,_,.nilPtr,.nilPtr=>.nilPtr
 |_,_,_,.ptr b y r _ _ pl i _ _,.ptr _ _ _ B O q g x p=>by have e:=h b pl i;rw[g]at e;cases e;exact .ptr b y r B O _ i x p
 |_,_,_,.qx,.qx=>.qx
 |_,_,_,.slice b y E n t _ _ _ pl i _ _ _ _,.slice _ _ _ _ _ B O o q g w hn x p=>by have e:=h b pl i;rw[g]at e;cases e;exact .slice b y E n t B O o _ i w hn x p
 |_,_,_,.yX,.yX=>.yX
 |_,_,_,.map b _ pl i _,.map _ R q g p=>by have e:=h b pl i;rw[g]at e;cases e;exact .map b R _ i p
 |_,_,_,.func f a c _ _ m F,.func _ _ _ l C d u=>.func f a c l C (bu.back h m d) (bu.back h F u)
 |_,_,_,.nilFunc,.nilFunc=>.nilFunc
 |_,_,_,.iface t v _ G,.iface _ _ H z=>.iface t v H (aG.back h G z)
 |_,_,_,.nilIface,.nilIface=>.nilIface
 |_,_,_,.agg a _ m,.agg _ l d=>.agg a l (bu.back h m d)
 |_,_,_,.tuple a _ m,.tuple _ l d=>.tuple a l (bu.back h m d)
def bu.back{j f}(h:∀b pl,j b=some pl->f b=some pl):∀{a g c:List ae},bu j a g->bu f a c->bu j a c
 |_,_,_,.nil,.nil=>.nil
 |_,_,_,.cons v _ l _ k i,.cons _ n _ m e d=>.cons v n l m (aG.back h k e) (bu.back h i d)
end
end Go.Ab
namespace Go.Ab
theorem bu.length{j}:∀{a c:List ae},bu j a c->a.length=c.length
 |_,_,.nil=>rfl
 |_,_,.cons _ _ _ _ _ b=>by simp[bu.length b]
def bu.get{j}:∀{a c:List ae},bu j a c->∀{i:Nat} {v:ae},a[i]?=some v->∃cv,c[i]?=some cv/\aG j v cv
 |_,_,.nil,i,v,h=>by simp at h
 |_,_,.cons v f l e d b,0,u,h=>aq
 |_,_,.cons v f l e d b,i+1,u,h=>by simpa using bu.get b aq
def bu.append{j}:∀{a c b d:List ae},bu j a c->bu j b d->bu j (a++b) (c++d)
 |_,_,_,_,.nil,h=>h
 |_,_,_,_,.cons v g l i f e,h=>.cons v g _ _ f (bu.append e h)
def bu.take{j}:∀(n) {a c:List ae},bu j a c->bu j (a.take n) (c.take n)
 |0,_,_,_=>by simp;exact .nil
 |_+1,_,_,.nil=>by simp;exact .nil
 |n+1,_,_,.cons v e l f d b=>.cons v e _ _ d (bu.take n b)
def bu.drop{j}:∀(n) {a c:List ae},bu j a c->bu j (a.drop n) (c.drop n)
 |0,_,_,h=>h
 |_+1,_,_,.nil=>by simp;exact .nil
 |n+1,_,_,.cons _ _ l d _ b=>bu.drop n b
def bu.ML{j}:∀(a c:List ae),a.length=c.length->(∀(i:Nat)(v),a[i]?=some v->∃cv,c[i]?=some cv/\aG j v cv)->bu j a c
 |[],[],_,_=>.nil
 |[],_::_,h,_=>by simp at h
 |_::_,[],h,_=>by simp at h
 |v::l,f::d,h,k=>by obtain⟨cv,b,e⟩:=k 0 v rfl;simp at b;subst b;exact .cons v f l d e (bu.ML l d aq (λi u g=>by simpa using k (i+1) u aq))
inductive gu (j:az):List (Value × Value × Nat)->List MapEntry->Prop where
 |nil:gu j [] []
 | cons (k v k' v':Value) (n:Nat) (l:List (Value × Value × Nat)) (l':List MapEntry) (hk:aG j k k') (hv:aG j v v') (hl:gu j l l') :
   gu j ((k,v,n)::l) ({ key:=k',val:=v',born:=n }::l')
def gu.mono{j b}(h:j.le b):∀{a:List (ae × ae × Nat)} {c:List MapEntry},gu j a c->gu b a c
 |_,_,.nil=>.nil
 |_,_,.cons k v g m n l i d f e=>.cons k v g m n l i (d.mono h) (f.mono h) (gu.mono h e)
def gu.back{j g}(h:∀b pl,j b=some pl->g b=some pl):∀{a:List (ae × ae × Nat)} {i c:List MapEntry},gu j a i->gu g a c->gu j a c
 |_,_,_,.nil,.nil=>.nil
 |_,_,_,.cons k v _ _ n l _ m p o,.cons _ _ q s _ _ r d f e=>.cons k v q s n l r (m.back h d) (p.back h f) (gu.back h o e)
def XfF(pl:Pl)(len ty lo hi t:Nat):Prop:=ty=t / 2/\(t%2=1->pl.lo=0/\pl.cb=0/\pl.size=len)/\(lo=hi\/(lo<hi/\lo<pl.size))
def iF(j:az)(w:World)(pl:Pl):dQ->Prop
 | .cells c ver e ro f=>pl.ver=ver/\pl.ro=ro/\pl.lo<=c.length/\∃C ty lo hi,w.heap[pl.aF]?=some (.cells C ty (lo,hi))/\C.size=pl.size /\
   (∀i v,pl.lo<=i->c[i]?=some v->∃cv,C[pl.cb+(i-pl.lo)]?=some cv/\aG j v cv) /\
   (ro=false->∀i,e<=i->pl.lo<=i->pl.cb+(i-pl.lo)<pl.size->¬(lo<=pl.cb+(i-pl.lo)/\pl.cb+(i-pl.lo)<hi))/\(∀t,f=some t->XfF pl c.length ty lo hi t)
 |.map h a=>pl.ver=0/\pl.ro=false/\∃d,w.heap[pl.aF]?=some (.map d a)/\gu j h d.toList
 |.dM s pos=>pl.ver=0/\pl.ro=false/\pl.lo=0/\pl.cb=0/\w.heap[pl.aF]?=some (.stringIter s pos)
 |.B2 k b seen last=>pl.ver=0/\pl.ro=false/\pl.lo=0/\pl.cb=0/\∃g,aG j (.map k) (.map g)/\w.heap[pl.aF]?=some (.mapIter g b (match seen with|none=>#[]|some s=>#[s]) last)/\(∀s,seen=some s->s<last)
structure Rel (B0:Nat) (j:az) (m:Mem) (w:World):Prop where
 blocks:∀b pl,j b=some pl->b<m.next/\∃y,m.get b=some y/\iF j w pl y
 inj:∀b b' pl pl',j b=some pl->j b'=some pl'->pl.ro=false->pl.aF=pl'.aF->b=b'
 base:∀b pl,j b=some pl->pl.ro=false->B0<=pl.aF
 size:B0<=w.heap.size
 fresh:∀b,m.next<=b->m.get b=none
structure bW (j:az) (m:Mem) (w:World) (H1:az) (S:Mem) (Z:World):Prop where
 le:j.le H1
 next:m.next<=S.next
 low:S.low<=m.low
 same:∀b,b<S.low->b<m.next->S.get b=m.get b/\H1 b=j b
 os:Z.os=w.os
 tape:Z.tape=w.tape
 output:Z.output=w.output
 size:w.heap.size<=Z.heap.size
 frame:∀B,B<w.heap.size->(∀b pl,j b=some pl->pl.ro=false->pl.aF≠B)->Z.heap[B]?=w.heap[B]?
 oE:∀b pl,H1 b=some pl->pl.ro=false->(∃b' pl',j b'=some pl'/\pl'.ro=false/\pl'.aF=pl.aF)\/w.heap.size<=pl.aF
 un:∀b,b<m.next->j b=none->H1 b=none/\S.get b=m.get b
def bW.refl(j m w):bW j m w j m w:=⟨.refl j,c6 _,c6 _,λ_ _ _=>⟨rfl,rfl⟩,rfl,rfl,rfl,c6 _,λ_ _ _=>rfl,λb pl h a=>.inl ⟨b,pl,h,a,rfl⟩,λ_ _ h=>⟨h,rfl⟩⟩
def bW.trans{j H1 φ'' m S m'' w Z w''}(h:bW j m w H1 S Z)(k:bW H1 S Z φ'' m'' w''):bW j m w φ'' m'' w'' where
 le:=h.le.trans k.le
 next:=aO h.next k.next
 low:=aO k.low h.low
 same:=λb h1 h2=>by
  obtain⟨a1,a2⟩:=h.same b (dU h1 k.low) h2;obtain⟨b1,b2⟩:=k.same b h1 (dU h2 h.next)
  grind
 os:=k.os.trans h.os
 tape:=k.tape.trans h.tape
 output:=k.output.trans h.output
 size:=aO h.size k.size
 frame:=λB hB hn=>by
  rw[k.frame B (dU hB h.size) ?_,h.frame B hB hn];intro b pl hb hr e;rcases h.oE b pl hb hr with⟨b',pl',h1,h2,h3⟩|h1
  ·grind
  ·omega
 oE:=λb pl hb hr=>by
  rcases k.oE b pl hb hr with⟨b',pl',h1,h2,h3⟩|h1
  ·rcases h.oE b' pl' h1 h2 with⟨b2,pl2,g1,g2,g3⟩|g1
   ·grind
   ·omega
  ·exact .inr (aO h.size h1)
 un:=λb h1 h2=>by
  obtain⟨a1,a2⟩:=h.un b h1 h2;obtain⟨b1,b2⟩:=k.un b (dU h1 h.next) a1
  grind
def iF.of_heap{j w Z pl}(h:Z.heap[pl.aF]?=w.heap[pl.aF]?){y}(k:iF j w pl y):iF j Z pl y:=by simp_all[iF]
def iF.mono{j q}(h:j.le q){w pl y}(k:iF j w pl y):iF q w pl y:=by
 cases y with
 |cells c ver t ro A =>obtain⟨d,e,f,C,ty,lo,hi,g,n,o,z⟩:=k;exact⟨d,e,f,C,ty,lo,hi,g,n,λi v a b=>by obtain⟨cv,x,u⟩:=o i v a b;exact⟨cv,x,u.mono h⟩,z⟩
 |map B l =>obtain⟨d,e,m,f,g⟩:=k;exact⟨d,e,m,f,g.mono h⟩
 |dM s pos=>exact k
 |B2 D p seen last =>obtain⟨d,e,f,g,r,n,o⟩:=k;exact⟨d,e,f,g,r,n.mono h,o⟩
def Rel.of_heap{B0 j m w Z}(h:Rel B0 j m w)(e:Z.heap=w.heap):Rel B0 j m Z where
 blocks:=λb pl hb=>by obtain⟨h1,y,h2,h3⟩:=h.blocks b pl hb;exact⟨h1,y,h2,h3.of_heap (by rw[e])⟩
 inj:=h.inj
 base:=h.base
 size:=by rw[e];exact h.size
 fresh:=h.fresh
def Rel.congr{B0 j m S w}(h:Rel B0 j m w)(e:sn m S):Rel B0 j S w where
 blocks:=λb pl hb=>by obtain⟨h1,y,h2,h3⟩:=h.blocks b pl hb;exact⟨by rwa[e.next],y,by rwa[e.get],h3⟩
 inj:=h.inj
 base:=h.base
 size:=h.size
 fresh:=λb hb=>by simp_all[e.get,h.fresh,e.next]
def bW.congr{j H1 m m1 S w Z}(h:bW j m w H1 m1 Z)(e:sn m1 S):bW j m w H1 S Z where
 le:=h.le
 next:=by rw[e.next];exact h.next
 low:=by rw[e.low];exact h.low
 same:=λb h1 h2=>by simp_all[e.get,h.same,e.low,]
 os:=h.os
 tape:=h.tape
 output:=h.output
 size:=h.size
 frame:=h.frame
 oE:=h.oE
 un:=λb h1 h2=>by rw[e.get];exact h.un b h1 h2
def bW.of_heap{j H1 m S w w1 Z w1'}(h:bW j m w H1 S Z)(e:w1.heap=w.heap)(eo:w1.os=w.os)(et:w1.tape=w.tape)(eu:w1.output=w.output)
  (e':w1'.heap=Z.heap) (eo':w1'.os=Z.os) (et':w1'.tape=Z.tape) (eu':w1'.output=Z.output):bW j m w1 H1 S w1' where
 le:=h.le
 next:=h.next
 low:=h.low
 same:=h.same
 os:=by rw[eo,eo'];exact h.os
 tape:=by rw[et,et'];exact h.tape
 output:=by rw[eu,eu'];exact h.output
 size:=by rw[e,e'];exact h.size
 frame:=λB=>by rw[e,e'];exact h.frame B
 oE:=λb pl=>by rw[e];exact h.oE b pl
 un:=h.un
def iF.there{j w pl y}(k:iF j w pl y):pl.aF<w.heap.size:=by
 have key:∀x,w.heap[pl.aF]?=some x->pl.aF<w.heap.size:=λx l=>by grind
 cases y with
 |cells c ver d ro e=>obtain⟨_,_,_,C,ty,lo,hi,h,_⟩:=k;grind
 |map f a=>obtain⟨_,_,b,g,_⟩:=k;grind
 |dM s pos=>exact key _ k.2.2.2.2
 |B2 _ _ _ _=>obtain⟨_,_,_,_,_,_,i,_⟩:=k;grind
def az.bH(j:az)(b:Nat)(pl:Pl):az:=λx=>if x=b then some pl else j x
def az.dE(j:az)(b pl):j.bH b pl b=some pl:=by simp[az.bH]
def az.cN{j:az}{b x}(pl)(h:x≠b):j.bH b pl x=j x:=by simp[az.bH,h]
def KR{A j m w w1}(h:Rel A j m w)(O)(e:w1.heap=w.heap.push O)(D:w1.os=w.os)(E:w1.tape=w.tape)(F:w1.output=w.output)
  (pl:Pl) (q:pl.aF=w.heap.size) (y:dQ) (n:iF (j.bH m.next pl) w1 pl y) :
  Rel A (j.bH m.next pl) (m.push y) w1/\bW j m w (j.bH m.next pl) (m.push y) w1:=by
 have i:∀s,j m.next≠some s:=λs I=>by have:=(h.blocks _ _ I).1;omega
 have r:j.le (j.bH m.next pl):=λb p n=>⟨p,by rw[az.cN pl (λx=>i p aq),n],.inl rfl⟩
 have k:∀B,B<w.heap.size->w1.heap[B]?=w.heap[B]?:=λB hB=>aq;refine⟨⟨λb p c=>?_,λb t p C c f u v=>?_,λb p c u=>?_,by grind[h.size],λb n=>by rw[Mem.bV,af (by simp at n;omega)];exact h.fresh b (by simp at n;omega)⟩,?_⟩
 ·by_cases a:b=m.next
  ·subst a;rw[az.dE]at c;cases c;exact⟨ar,y,pR,n⟩
  ·rw[az.cN pl a]at c;obtain⟨J,z,G,l⟩:=h.blocks b p c;refine⟨cF,z,by rwa[Mem.bV,af (bq a)],?_⟩;exact(l.mono r).of_heap (k _ l.there)
 ·by_cases a:b=m.next
  ·by_cases d:t=m.next
   ·omega
   ·subst a;rw[az.dE]at c;rw[az.cN pl d]at f;cases c;obtain⟨_,z,_,l⟩:=h.blocks t C f;have:=l.there;omega
  ·by_cases d:t=m.next
   ·subst d;rw[az.dE]at f;rw[az.cN pl a]at c;cases f;obtain⟨_,z,_,l⟩:=h.blocks b p c;have:=l.there;omega
   ·rw[az.cN pl a]at c;rw[az.cN pl d]at f;exact h.inj b t p C c f u v
 ·by_cases a:b=m.next
  ·subst a;rw[az.dE]at c;cases c;rw[q];exact h.size
  ·rw[az.cN pl a]at c;exact h.base b p c u
 ·refine⟨r,ar,ar,λb _ o=>?_,D,E,F,aq,λB hB _=>k B hB,λb p c u=>?_,λb H o=>?_⟩
  ·have g:b≠m.next:=by omega
   exact⟨by rw[Mem.bV,af (bq g)],az.cN pl g⟩
  ·by_cases a:b=m.next
   ·subst a;rw[az.dE]at c
    grind
   ·rw[az.cN pl a]at c
    grind
  ·have g:b≠m.next:=by omega
   exact⟨by rwa[az.cN pl g],by rw[Mem.bV,af (bq g)]⟩
def EG{D j m w w1}(h:Rel D j m w)(b pl a)(n:j b=some pl)(l:pl.ro=false)(k:a.aF=pl.aF)(N:a=pl\/pl.ver<a.ver)
  (A:w1.heap.size=w.heap.size) (e:∀B,B≠pl.aF->w1.heap[B]?=w.heap[B]?) (F:w1.os=w.os) (G:w1.tape=w.tape) (H:w1.output=w.output)
  (y:dQ) (C:iF (j.bH b a) w1 a y) :
  Rel D (j.bH b a) (m.put b y) w1/\bW j m w (j.bH b a) (m.put b y) w1:=by
 obtain⟨K,Q,L,M⟩:=h.blocks b pl n;have q:j.le (j.bH b a):=λx p s=>by
  by_cases c:x=b
  ·subst c;rw[n]at s;cases s;exact⟨a,az.dE _ _ _,N⟩
  ·exact⟨p,by rw[az.cN a c,s],.inl rfl⟩
 refine⟨⟨λx p d=>?_,λx v p E d i r o=>?_,λx p d r=>?_,by rw[A];exact h.size,λx s=>by rw[Mem.aX,af (by simp at s;omega)];exact h.fresh x oU⟩,?_⟩
 ·by_cases c:x=b
  ·subst c;rw[az.dE]at d;cases d;exact⟨oU,y,Cm,C⟩
  ·rw[az.cN a c]at d;obtain⟨P,O,I,J⟩:=h.blocks x p d;refine⟨oU,O,by rw[Mem.aX,af (bq c)];exact I,?_⟩;have f:p.aF≠pl.aF:=λz=>c (h.inj b x pl p n d l z.symm).symm;exact(J.mono q).of_heap (e _ f)
 ·by_cases c:x=b
  ·by_cases g:v=b
   ·omega
   ·subst c;rw[az.dE]at d;rw[az.cN a g]at i;cases d;exact h.inj x v pl E n i l (k▸o)
  ·by_cases g:v=b
   ·subst g;rw[az.dE]at i;rw[az.cN a c]at d;cases i;exact h.inj x v p pl d n r (k▸o)
   ·rw[az.cN a c]at d;rw[az.cN a g]at i;exact h.inj x v p E d i r o
 ·by_cases c:x=b
  ·subst c;rw[az.dE]at d;cases d;rw[k];exact h.base x pl n l
  ·rw[az.cN a c]at d;exact h.base x p d r
 ·refine⟨q,ar,cF,λx t u=>?_,F,G,H,aa,λB hB hn=>e B (λz=>hn b pl n l z.symm),λx p d r=>?_,λx t u=>?_⟩
  ·have f:x≠b:=by simp at t;omega
   exact⟨by rw[Mem.aX,af (bq f)],az.cN a f⟩
  ·by_cases c:x=b
   ·subst c;rw[az.dE]at d
    grind
   ·rw[az.cN a c]at d
    grind
  ·have f:x≠b:=λz=>by grind
   exact⟨by rwa[az.cN a f],by rw[Mem.aX,af (bq f)]⟩
def Addr.rC(B O n):(⟨B,O,none⟩:Addr).add n=⟨B,O+n,none⟩:=by unfold Addr.add;split<;>simp_all
def Mk{w:World}{B}{C:Array ae}{ty a}(h:w.heap[B]?=some (.cells C ty a))(i):w.cell? ⟨B,i,none⟩=C[i]?:=by simp[World.cell?,h]
def XdO{w:World}{B}{C:Array ae}{ty lo hi}(h:w.heap[B]?=some (.cells C ty (lo,hi)))(i):w.frozen? ⟨B,i,none⟩=(decide (lo<=i)&&decide (i<hi)):=by simp[World.frozen?,h]
def XS{p j m w}(h:Rel p j m w){a A}(s:aG j (.pointer (some a)) (.pointer (some A)))
  {c:List ae} {ver e:Nat} {ro:Bool} {f:Option Nat} (n:m.get a.block=some (.cells c ver e ro f)) (o:a.spot=some ver) :
  ∃pl,j a.block=some pl/\pl.ver=ver/\pl.ro=ro/\pl.lo<=a.off/\A=⟨pl.aF,pl.cb+(a.off-pl.lo),none⟩/\iF j w pl (.cells c ver e ro f):=by
 cases s with
 |ptr b y r B O pl l v i =>obtain⟨_,x,k,g⟩:=h.blocks b pl l;simp only at n o;rw[n]at k;cases k;cases o;have d:=g.1;obtain⟨t,q,u⟩:=i d.symm;exact⟨pl,l,d,g.2.1,q,aq,g⟩
def AV{k j m w}(h:Rel k j m w){a A}(u:aG j (.pointer (some a)) (.pointer (some A))){n cs}
  (e:j0 m a n=some cs):∃d,bu j cs d/\d.length=n/\(∀b v,d[b]?=some v->w.cell? (A.add b)=some v):=by
 rw[jF]at e;unfold iI at e;split at e
 ·rename_i c ver l ro y t;split at e
  ·rename_i i;simp at i;cases e;obtain⟨pl,H,z,B,D,o,p⟩:=XS h u t i.1;obtain⟨_,_,E,C,ty,lo,hi,q,F,G,_⟩:=p;rcases Nat.eq_zero_or_pos n with hn|hn
   ·subst hn;simp only[zo];exact⟨[],.nil,rfl,λb v g=>aq⟩
   have f:∀b,b<n->∃v cv,c[a.off+b]?=some v/\C[pl.cb+(a.off-pl.lo)+b]?=some cv/\aG j v cv:=λb g=>by grind
   have r:pl.cb+(a.off-pl.lo)+n<=C.size:=by obtain⟨v,cv,_,x,_⟩:=f (n-1) aa;obtain⟨s,_⟩:=Y8.1 x;omega
   refine⟨(C.toList.drop (pl.cb+(a.off-pl.lo))).take n,?_,aq,λb v g=>?_⟩
   ·refine bu.ML _ _ aq (λb v g=>?_)
    grind
   ·rw[jP]at g;split at g
    ·rw[o,Addr.rC,Mk q]
     grind
    grind
  grind
 grind
def UY(b ty c):∀(vs:List ae)(y) (w:World) (C:Array ae),w.heap[b]?=some (.cells C ty c)->y+vs.length<=C.size ->
  ∃a,(w.setCells b y vs).heap[b]?=some (.cells a ty c)/\a.size=C.size/\(∀i,a[i]?=if y<=i/\i<y+vs.length then vs[i-y]? else C[i]?)
 |[],y,w,C,h,_=>⟨C,h,rfl,λi=>aq⟩
 |v::r,y,w,C,h,e=>by
  simp at e;have d:(w.setCell ⟨b,y,none⟩ v).heap[b]?=some (.cells (C.setIfInBounds y v) ty c):=by simp[World.setCell,F9,h]
  obtain⟨a,f,g,j⟩:=UY b ty c r (y+1) _ _ d cF;refine⟨a,f,aq,λi=>?_⟩
  grind
def UQ(b):∀(vs:List ae)(y) (w:World) (k),k≠b->(w.setCells b y vs).heap[k]?=w.heap[k]?
 |[],_,_,_,_=>rfl
 |v::r,y,w,k,h=>by
  simp only[World.setCells];rw[UQ b r _ _ k h];simp only[World.setCell,F9]
  grind
def UW(b):∀(vs:List ae)(y) (w:World),(w.setCells b y vs).heap.size=w.heap.size/\(w.setCells b y vs).os=w.os/\(w.setCells b y vs).tape=w.tape/\(w.setCells b y vs).output=w.output
 |[],_,_=>⟨rfl,rfl,rfl,rfl⟩
 |v::r,y,w=>by obtain⟨a,c,d,e⟩:=UW b r (y+1) (w.setCell ⟨b,y,none⟩ v);exact⟨by simpa[World.setCells]using a,c,d,e⟩
def Xu7{j}{v cv:ae}(h:aG j v cv)(k:one v=true):cv.oneCell'=true:=by cases h<;>first|rfl|assumption
def VK{j}:∀{vs a:List ae},bu j vs a->vs.all one=true->∀v∈a,v.oneCell'=true
 |_,_,.nil,_=>ar
 |_,_,.cons v d l c h b,k=>by
  simp only[km,bT]at k;intro u hu;rcases eF.1 hu with rfl|hu
  ·exact Xu7 h k.1
  ·exact VK b k.2 u hu
def Xku{P M j m S w}(h:Rel M j m w){a A}(hp:aG j (.pointer (some a)) (.pointer (some A))){vs f:List ae}(l:bu j vs f)
  (D:A0 m a vs=some S):∃Z E,(storeCells A f).run P w=.ok () Z/\Rel M E S Z/\bW j m w E S Z/\j.le E:=by
 unfold A0 at D;split at D
 ·rename_i c ver p r hm;split at D
  ·rename_i Q;simp only[bT,gq]at Q;obtain⟨⟨⟨J,a0⟩,a1⟩,K⟩:=Q;cases D;obtain⟨pl,H,F,s,h3,Y,I⟩:=XS h hp hm J;obtain⟨_,_,N,C,ty,lo,hi,u,O,G,d⟩:=I;have U:=l.length;by_cases n:vs=[]
   ·subst n;cases l;refine⟨w,j,rfl,?_,?_,.refl j⟩
    ·have e:j.bH a.block pl=j:=by
      funext x;unfold az.bH;split
      ·grind
      ·rfl
     have:=EG h _ pl pl H s rfl (.inl rfl) rfl (λ_ _=>rfl) rfl rfl rfl (.cells c ver p _ r) (by rw[e];exact⟨F,s,N,C,ty,lo,hi,u,O,G,d⟩);simp_all
    ·have e:j.bH a.block pl=j:=by
      funext x;unfold az.bH;split
      ·grind
      ·rfl
     have:=EG h _ pl pl H s rfl (.inl rfl) rfl (λ_ _=>rfl) rfl rfl rfl (.cells c ver p _ r) (by rw[e];exact⟨F,s,N,C,ty,lo,hi,u,O,G,d⟩);simp_all
   have V:0<vs.length:=wP.2 n;have y:∀k,k<vs.length->pl.cb+(a.off-pl.lo)+k<C.size:=λk T=>by
    have hx:a.off+k<c.length:=aa;obtain⟨cv,W,_⟩:=G (a.off+k) c[a.off+k] aa (dX hx)
    grind
   have R:=y (vs.length-1) aa;have o:=run_storeCells_cells (P:=P) _ _ f 0 w
    (λk T=>by rw[gp,Mk u,Array.getElem?_eq_getElem (y k aa)];rfl)
    (λk T=>by rw[gp,XdO u];have:=d.1 rfl (a.off+k) aa aa aa;simp only[Bool.and_eq_false_iff,rT];omega)
    (VK l K)
   rw[gp,<-Y]at o;obtain⟨X,W,k2,k3⟩:=UY _ ty _ f (pl.cb+(a.off-pl.lo)) w C u aa;obtain⟨r1,r2,r3,r4⟩:=UW pl.aF f (pl.cb+(a.off-pl.lo)) w;have e:j.bH a.block pl=j:=by
    funext x;unfold az.bH;split
    ·grind
    ·rfl
   have g:=EG (w1:=w.setCells pl.aF (pl.cb+(a.off-pl.lo)) f) h a.block pl pl H s rfl (.inl rfl) r1 (λB hB=>UQ _ _ _ _ _ hB) r2 r3 r4
    (.cells (c.take a.off++vs++c.drop (a.off+vs.length)) ver p false r) (by
     rw[e];refine⟨F,s,aq,X,ty,lo,hi,W,aa,λi v a2 b=>?_,d.1,λt L=>⟨(d.2 t L).1,λho=>by have:=(d.2 t L).2.1 ho;grind,(d.2 t L).2.2⟩⟩;rw[k3];rw[lV,tL]at b;by_cases z:i<(c.take a.off).length
     ·rw[ah z,jP]at b;have q:i<a.off:=by simp at z;omega
      rw[ah q]at b;rw[af aa]
      grind
     ·rw[af z]at b;have q:(c.take a.off).length=a.off:=by simp;omega
      rw[q]at b z;rw[tL]at b;by_cases hB:i-a.off<vs.length
      ·rw[ah hB]at b;rw[ah aa];obtain⟨cv,q1,q2⟩:=l.get b
       grind
      ·rw[af hB,lz]at b;rw[af aa]
       grind)
   rw[e]at g;exact⟨_,j,o,g.1,g.2,.refl j⟩
  grind
 grind
def Xnh{P e j m S w}(h:Rel e j m w){a A}(k:aG j (.pointer (some a)) (.pointer (some A))){vs c:List ae}(d:bu j vs c)
  (i:setCells m a vs=some S):∃Z b,(storeCells A c).run P w=.ok () Z/\Rel e b S Z/\bW j m w b S Z/\j.le b:=by
 obtain⟨q,g,f⟩:=Xki i;obtain⟨Z,b,l,n,o,p⟩:=Xku (P:=P) h k d g;exact⟨Z,b,l,n.congr f,o.congr f,p⟩
def Xy9{C j m w w1}(h:Rel C j m w)(O)(e:w1.heap=w.heap.push O)(F:w1.os=w.os)(G:w1.tape=w.tape)(H:w1.output=w.output)
  (b:Nat) (pl a:Pl) (D:j b=some pl) (n:a.aF=w.heap.size) (M:pl.ver<a.ver) (y:dQ) (v:iF (j.bH b a) w1 a y) :
  Rel C (j.bH b a) (m.put b y) w1/\bW j m w (j.bH b a) (m.put b y) w1:=by
 obtain⟨J,R,K,L⟩:=h.blocks b pl D;have o:j.le (j.bH b a):=λx p l=>by
  by_cases c:x=b
  ·subst c;rw[D]at l;cases l;exact⟨a,az.dE _ _ _,.inr M⟩
  ·exact⟨p,by rw[az.cN a c,l],.inl rfl⟩
 have k:∀B,B<w.heap.size->w1.heap[B]?=w.heap[B]?:=λB hB=>aq;have u:∀x p,j x=some p->p.aF<w.heap.size:=λx p l=>by obtain⟨_,E,_,s⟩:=h.blocks x p l;exact s.there
 refine⟨⟨λx p d=>?_,λx A p N d i t z=>?_,λx p d t=>?_,by grind[h.size],λx l=>by rw[Mem.aX,af (by simp at l;omega)];exact h.fresh x oU⟩,?_⟩
 ·by_cases c:x=b
  ·subst c;rw[az.dE]at d;cases d;exact⟨oU,y,Cm,v⟩
  ·rw[az.cN a c]at d;obtain⟨P,E,I,s⟩:=h.blocks x p d;refine⟨oU,E,by rw[Mem.aX,af (bq c)];exact I,?_⟩;exact(s.mono o).of_heap (k _ s.there)
 ·by_cases c:x=b
  ·by_cases f:A=b
   ·omega
   ·subst c;rw[az.dE]at d;rw[az.cN a f]at i
    grind
  ·by_cases f:A=b
   ·subst f;rw[az.dE]at i;rw[az.cN a c]at d
    grind
   ·rw[az.cN a c]at d;rw[az.cN a f]at i;exact h.inj x A p N d i t z
 ·by_cases c:x=b
  ·subst c;rw[az.dE]at d;cases d;rw[n];exact h.size
  ·rw[az.cN a c]at d;exact h.base x p d t
 ·refine⟨o,ar,cF,λx q r=>?_,F,G,H,aq,λB hB hn=>k B hB,λx p d t=>?_,λx q r=>?_⟩
  ·have g:x≠b:=by simp at q;omega
   exact⟨by rw[Mem.aX,af (bq g)],az.cN a g⟩
  ·by_cases c:x=b
   ·subst c;rw[az.dE]at d
    grind
   ·rw[az.cN a c]at d
    grind
  ·have g:x≠b:=λQ=>by grind
   exact⟨by rw[az.cN a g];exact r,by rw[Mem.aX,af (bq g)]⟩
def Xfw{P N j m w}(h:Rel N j m w){x E:ae}(Y:aG j x E){n k}(hn:kC x=some n)(hk:k<=n){size cs}
  (a:jG size k x m=some cs) :
  (∀e,e.heap=w.heap->(Builtin.lenOf E).run P e=.ok n e)/\∃d,bu j cs d/\((∃s,x=.string s)->size=1->d.length=k*size)/\((∀s,x≠.string s)->d.length=k*size) /\
   (∀e,e.heap=w.heap->(Builtin.firstCells size k E).run P e=.ok d.toArray e):=by
 cases Y with
 |string s =>
  simp only[kC,cE]at hn;simp only[jG,cE]at a;subst a hn;refine⟨λe _=>rfl,(s.data.toList.take k).map (λb=>.int .u8 b.toNat),?_,?_,λG=>absurd rfl (G s),λe _=>?_⟩
  ·exact bu.ML _ _ rfl (λi v C=>⟨v,C,by
    rw[gX]at C;cases X:(List.take k s.data.toList)[i]? with
    |none=>grind
    |some u=>rw[X]at C;cases C;exact .int _ _⟩)
  ·simp_all
  ·simp only[Builtin.firstCells,Sem.run_pure];congr 1;apply vc;simp
 |qx =>simp only[kC,cE]at hn;subst hn;obtain rfl:k=0:=aa;simp only[jG,dW,cE]at a;subst a;exact⟨λe _=>rfl,[],.nil,λ_ _=>ar,λ_=>ar,λe _=>rfl⟩
 |slice b y J len t B O o pl L T V hr W =>
  simp only[kC,cE]at hn;simp only[jG]at a;subst hn;split at a
  ·rename_i r;simp only[cE]at r;subst r;refine⟨λe _=>rfl,?_⟩;by_cases l:k*J=0
   ·rw[l]at a;rw[jF]at a;unfold iI at a;split at a
    ·split at a
     ·simp only[zo,cE]at a;subst a;exact⟨[],.nil,λ_ _=>aq,λ_=>aq,λe _=>by simp[Builtin.firstCells,l,loadCells,loadCellsFrom]⟩
     trivial
    ·cases a
   ·
    have p:∃c f ro g,m.get b=some (.cells c (t / 2) f ro g):=by
     rw[jF]at a;unfold iI at a;split at a
     ·rename_i c ver f ro g p;split at a
      ·rename_i F;simp only[bT,gq,cE]at F;exact⟨c,f,ro,g,by rw[p,F.1]⟩
      ·cases a
     ·cases a
    obtain⟨c,f,ro,g,p⟩:=p;obtain⟨_,o',K,Q⟩:=h.blocks b pl L;rw[p]at K;cases K;obtain⟨A,_⟩:=W Q.1.symm;have M:o≠0:=λF=>by grind
    rcases A with A|⟨A,R,S,h7⟩
    ·omega
    have q:aG j _ _:=.ptr b y _ B O pl L aa (λ_=>⟨A,R,S⟩);obtain⟨d,k1,I,k3⟩:=AV h q a;refine⟨d,k1,λ_ _=>I,λ_=>I,λe H=>?_⟩;have:=run_firstCells_some (P:=P) e J k _ len o d I (λZ v U=>by have:=k3 Z v U;simp only[World.cell?]at this|-;rw[H];exact this)
    grind
  trivial
 |_=>trivial
end Go.Ab
namespace Go.Ab
section
variable {P:Program}(w:World){t xt ty e:TypeId}{i:TypeInfo}{d:TypeDesc}
def Xag{Z}(l:P.underlying t=some (.slice e))(j:P.underlying xt=some d)(hd:d=.string\/∃k,d=.slice k)(hi:P.info? e=some i)
  (A:Addr) (a b n:Nat) (x:ae) (c:List ae) (g:(Builtin.lenOf x).run P w=.ok n w) (hf:(Builtin.firstCells i.size n x).run P w=.ok c.toArray w)
  (f:a+n<=b) (h:(storeCells (A.add (a*i.size)) c).run P w=.ok () Z) :
  (Builtin.append_ #[t,xt] ty #[.slice (some A) a b,x]).run P w=.ok (.slice (some A) (a+n) b) Z:=by
 rcases hd with rfl|⟨k,rfl⟩<;>
 simp[Builtin.append_,run_underlying l,run_underlying j,sizeOf,typeInfo,hi,g,f,hf,h]
def XrY(g:P.underlying t=some (.slice e))(c:P.underlying xt=some d)(hd:d=.string\/∃f,d=.slice f)(hi:P.info? e=some i)
  (x:ae) (b:List ae) (a:(Builtin.lenOf x).run P w=.ok 0 w) (hf:(Builtin.firstCells i.size 0 x).run P w=.ok b.toArray w) :
  (Builtin.append_ #[t,xt] ty #[.slice none 0 0,x]).run P w=.ok (.slice none 0 0) w:=by
 rcases hd with rfl|⟨f,rfl⟩<;>
 simp[Builtin.append_,run_underlying g,run_underlying c,sizeOf,typeInfo,hi,a,hf]
def X8u(u:P.underlying t=some (.slice e))(m:P.underlying xt=some d)(hd:d=.string\/∃o,d=.slice o)(hi:P.info? e=some i){z:ae}(v:i.zero=some z)
  (b:Option Addr) (a c n:Nat) (x:ae) (g f:List ae) (l:(Builtin.lenOf x).run P w=.ok n w)
  (hf:(Builtin.firstCells i.size n x).run P w.drew=.ok f.toArray w.drew) (s:(Builtin.firstCells i.size a (.slice b a c)).run P w.drew=.ok g.toArray w.drew)
  (r:c<a+n) (q:a+n<=4611686018427387904) (k:(a+n)*i.bytes<=140737488355328) :
  (Builtin.append_ #[t,xt] ty #[.slice b a c,x]).run P w =
   .ok (.slice (some ⟨w.heap.size,0,none⟩) (a+n) (grownCap w (a+n) c e))
    (w.drew.alloc (.cells (g.toArray++f.toArray++Builtin.zeroCells z.cells (grownCap w (a+n) c e-(a+n))) e)):=by
 have hn:¬(a+n<=c):=aa;have j:¬(9223372036854775807<((a)+(n:Int))):=aa;have h:¬(281474976710656<Builtin.nextslicecap (a+n) c*i.bytes):=by have:=growslice_fits (need:=a+n) (old:=c) (bytes:=i.bytes) r k;omega
 rcases hd with rfl|⟨o,rfl⟩<;>
 ·simp[Builtin.append_,run_underlying u,run_underlying m,sizeOf,typeInfo,zeroValue,hi,v,l,hn,j,h,Question.forced,hf,s,newRow,grownCap];congr 2;apply vc;simp
end
def grownCap_ge(w need old e):need<=grownCap w need old e:=by simp[grownCap,Question.cut]
def Xab(z:Array ae)(n):(Builtin.zeroCells z n).size=n*z.size:=by simp[Builtin.zeroCells]
def Vq{n bytes}(h:fits n bytes=true):n*bytes<=140737488355328/\n<=4611686018427387904:=by simp only[fits,bT]at h;simp_all
def Xfo{size k x m cs n}(hn:kC x=some n)(d:k<=n)(b:(∃s,x=.string s)->size=1)(a:jG size k x m=some cs):cs.length=k*size:=by
 unfold jG at a;split at a
 ·split at a
  ·rw[jF]at a;unfold iI at a
   grind
  grind
 ·grind
 ·rename_i s;have c:=b ⟨s,rfl⟩;simp only[kC,cE]at hn;cases a;simp_all
 grind
def Xnu{o j m w w1}(h:Rel o j m w)(ty:TypeId)(cs c:List ae)(l:bu j cs c)(C:Array ae)(F:∀(i:Nat)(v),c[i]?=some v->C[i]?=some v)
  (g:Option Nat) (d:∀t,g=some t->ty=t / 2/\(t%2=1->C.size=cs.length)/\True)
  (e:w1.heap=w.heap.push (.cells C ty (0,0))) (s:w1.os=w.os) (u:w1.tape=w.tape) (y:w1.output=w.output) :
  ∃k,k m.next=some ⟨w.heap.size,0,0,C.size,0,false⟩/\Rel o k (m.push (.cells cs 0 0 false g)) w1/\bW j m w k (m.push (.cells cs 0 0 false g)) w1:=by
 have a:∀f,j m.next≠some f:=λf D=>by have:=(h.blocks _ _ D).1;omega
 have n:j.le (j.bH m.next ⟨w.heap.size,0,0,C.size,0,false⟩):=λb p z=>⟨p,by rw[az.cN _ (λx=>a p aq),z],.inl rfl⟩
 have q:=KR h _ e s u y ⟨w.heap.size,0,0,C.size,0,false⟩ rfl (.cells cs 0 0 false g)
  ⟨rfl,rfl,ar,C,ty,0,0,by rw[e];simp,rfl,λi v _ B=>by obtain⟨cv,G,E⟩:=l.get B;exact⟨cv,aq,E.mono n⟩,(λ_ i _ _ _=>aa),λt r=>⟨(d t r).1,λA=>⟨rfl,rfl,(d t r).2.1 A⟩,.inl rfl⟩⟩
 exact⟨_,az.dE _ _ _,q.1,q.2⟩
def Lu{d j m w w1}(h:Rel d j m w)(ty)(cs a:List ae)(c:bu j cs a)(C:Array ae)(l:∀(i:Nat)(v),a[i]?=some v->C[i]?=some v)
  (e:w1.heap=w.heap.push (.cells C ty (0,0))) (f:w1.os=w.os) (g:w1.tape=w.tape) (k:w1.output=w.output) :
  ∃b,b m.next=some ⟨w.heap.size,0,0,C.size,0,false⟩/\Rel d b (m.push (.cells cs 0 0 false (some (2*ty)))) w1/\bW j m w b (m.push (.cells cs 0 0 false (some (2*ty)))) w1:=
 Xnu h ty cs a c C l (some (2*ty)) (λt n=>aq) e f g k
def KI{ty e t}(h:pF ty e=some t):ty=some t/\e=t:=by
 unfold pF at h;split at h
 ·rename_i u;cases a:Nat.beq u e
  ·grind
  simp_all
 grind
def Xlz{P B0 j m S w}(h:Rel B0 j m w){s x cs cx v:ae}(hs:aG j s cs)(hx:aG j x cx)
  {t xt ty e:TypeId} {i:TypeInfo} {d:TypeDesc} {z:ae} (Q:P.underlying t=some (.slice e)) (R:P.underlying xt=some d) (hd:d=.string\/∃e',d=.slice e') (hi:P.info? e=some i) (hz:i.zero=some z)
  (b9:z.cells.size=i.size) (b7:(∃b,x=.string b)->i.size=1) (k:j5 e i.size i.bytes s x m=some (v,S)) :
  ∃cv Z H1,(Builtin.append_ #[t,xt] ty #[cs,cx]).run P w=.ok cv Z/\Rel B0 H1 S Z/\aG H1 v cv/\bW j m w H1 S Z:=by
 unfold j5 at k;cases hn:kC x with
 |none=>grind
 |some n =>
 rw[hn]at k;simp only at k;cases N:jG i.size n x m with
 |none=>grind
 |some new =>
 rw[N]at k;simp only at k;obtain⟨A,g,I,_,_,l⟩:=Xfw (P:=P) h hx hn (c6 n) N;have bv:=Xfo hn (c6 n) b7 N;have al:g.length=n*i.size:=by rwa[<-I.length]
 by_cases D:(new.all one&&Nat.ble 1 i.size)=true
 case neg=>simp[D]at k
 simp only[D,iQ,dp,dV]at k;simp only[bT]at D;have a0:1<=i.size:=oS D.2;cases hs with
 |qx =>
  simp only at k;by_cases M:n=0
  ·subst M;simp at k;obtain⟨rfl,rfl⟩:=k;exact⟨_,w,j,XrY w Q R hd hi cx _ (A w rfl) (l w rfl),h,.qx,.refl _ _ _⟩
  ·rw[af M]at k;split at k
   case isFalse=>cases k
   case isTrue aA =>
   simp at k;obtain⟨rfl,rfl⟩:=k;obtain⟨av,aw⟩:=Vq aA;have q:=X8u (ty:=ty) w Q R hd hi hz none 0 0 n cx [] _ (A w rfl) (l _ rfl) bY aa aa aq;simp only[aQ]at q;have X:=grownCap_ge w n 0 e;obtain⟨H1,k1,k2,k3⟩:=Lu (w1:=w.drew.alloc (.cells (#[]++g.toArray++Builtin.zeroCells z.cells (grownCap w n 0 e-n)) e)) h e new _ I _ (λE u hj=>by grind) rfl rfl rfl rfl
   refine⟨_,_,H1,q,k2,?_,k3⟩;refine .slice _ _ _ _ _ _ _ _ _ k1 a0 X ar (λ_=>⟨.inr ⟨rfl,ar,ar,?_⟩,λhh=>aa⟩);simp only[Y9,List.size_toArray,Xab,al,b9,aQ,rR];rw[<-rU];exact lU _ aa
 |slice b y es len r B O o pl hb an b0 hr hp =>
  simp only at k;split at k
  case h_2=>cases k
  case h_1 c ver a9 ro ba hm =>
  split at k
  case isTrue=>cases k
  case isFalse J =>
  simp only[Bool.not_eq_true,Bool.not_eq_false',bT]at J;obtain⟨⟨⟨ag,a3⟩,a4⟩,bf⟩:=J;have ag:es=i.size:=aq;have a3:r / 2=ver:=wM a3;have a4:=oS a4;obtain⟨av,aw⟩:=Vq bf;subst ag;obtain⟨_,o',h2,h3⟩:=h.blocks b pl hb;rw[hm]at h2;cases h2;have c9:pl.ver=ver:=h3.1;obtain⟨b3,bi⟩:=hp aa;obtain⟨_,b4,ca,C,a8,bc,bb,a2,ab,be,V⟩:=h3;by_cases M:n=0
  ·subst M;simp at k;obtain⟨rfl,rfl⟩:=k;have a5:g=[]:=uZ.1 aa;refine⟨_,w,j,Xag w Q R hd hi _ len o 0 cx g (A w rfl) (l w rfl) aa (by rw[a5];rfl),h,?_,.refl _ _ _⟩;exact .slice b y _ len r B O o pl hb an b0 hr hp
  rw[af M]at k
  have a6:∃f,bu j ((c.drop y).take (len*i.size)) f/\f.length=len*i.size/\(Builtin.firstCells i.size len (.slice (some ⟨B,O,none⟩) len o)).run P w.drew=.ok f.toArray w.drew:=by
   have bn:jG i.size len (.slice (some ⟨b,y,some i.size⟩) len r) m=some ((c.drop y).take (len*i.size)):=by simp only[jG,dW,jF,iI,hm,a3];simp only[bT,gq];rw[ah ⟨trivial,a4⟩]
   obtain⟨_,f,q1,_,q3,q4⟩:=Xfw (P:=P) h (.slice b y _ len r B O o pl hb an b0 hr hp) rfl (c6 len) bn;exact⟨f,q1,q3 (λ_ hh=>by cases hh),q4 _ rfl⟩
  obtain⟨f,b2,bw,bA⟩:=a6;have ce:((c.drop y).take (len*i.size)).length=len*i.size:=aq;have L:∀(aB:o<len+n),∃U,U.heap=w.heap.push (.cells (f.toArray++g.toArray++Builtin.zeroCells z.cells (grownCap w (len+n) o e-(len+n))) e)/\U.os=w.os/\U.tape=w.tape/\U.output=w.output /\
    (Builtin.append_ #[t,xt] ty #[.slice (some ⟨B,O,none⟩) len o,cx]).run P w=.ok (.slice (some ⟨w.heap.size,0,none⟩) (len+n) (grownCap w (len+n) o e)) U:=λaB =>
   ⟨w.drew.alloc (.cells (f.toArray++g.toArray++Builtin.zeroCells z.cells (grownCap w (len+n) o e-(len+n))) e),rfl,rfl,rfl,rfl,X8u (ty:=ty) w Q R hd hi hz _ len o n cx f g (A w rfl) (l _ rfl) bA aB aw av⟩
  have X:=grownCap_ge w (len+n) o e;have ac:(grownCap w (len+n) o e)*i.size<=(f.toArray++g.toArray++Builtin.zeroCells z.cells (grownCap w (len+n) o e-(len+n))).size:=by simp only[Y9,List.size_toArray,Xab,al,bw,b9];rw[<-rU,<-rU];exact lU _ aa
  have W:∀(E:Nat)(u),(f++g)[E]?=some u->(f.toArray++g.toArray++Builtin.zeroCells z.cells (grownCap w (len+n) o e-(len+n)))[E]?=some u:=λE u hj=>by grind
  split at k
  ·
   rename_i am;simp at k;obtain⟨rfl,rfl⟩:=k;obtain⟨U,e1,e2,e3,e4,q⟩:=L aa;obtain⟨H1,k1,k2,k3⟩:=Lu h e _ _ (b2.append I) _ W e1 e2 e3 e4;refine⟨_,U,H1,q,k2,?_,k3⟩;exact .slice _ _ _ _ _ _ _ _ _ k1 a0 X ar (λ_=>⟨.inr ⟨rfl,ar,ar,aq⟩,λhh=>aa⟩)
  ·rename_i am;split at k
   case isFalse=>cases k
   case isTrue K =>
   simp only[bT,Bool.not_eq_true']at K;obtain⟨K,b5⟩:=K;have K:=oS K;subst b5;simp at k;obtain⟨rfl,rfl⟩:=k;by_cases G:len+n<=o
   ·
    rcases b3 with b3|⟨bD,bE,c0,c1⟩
    ·omega
    subst bD c0;have c5:0<n*i.size:=Nat.mul_pos aa aa;have c4:pl.cb+(y-pl.lo)+(len*i.size+n*i.size)<=C.size:=by rw[ab,<-rU];have:=lU i.size G;omega
    have b6:=run_storeCells_cells (P:=P) _ (pl.cb+(y-pl.lo)+len*i.size) _ 0 w
     (λE hj=>by rw[gp,Mk a2,Array.getElem?_eq_getElem aa];rfl)
     (λE hj=>by rw[gp,XdO a2];have:=V.1 rfl (y+len*i.size+E) aa aa (by rw[<-ab];omega);simp only[Bool.and_eq_false_iff,rT];omega)
     (VK I D.1)
    rw[gp]at b6;have q:=Xag (ty:=ty) w Q R hd hi _ len o n cx _ (A w rfl) (l w rfl) G (by rwa[Addr.rC]);obtain⟨C',k1,k2,k3⟩:=UY _ a8 _ g (pl.cb+(y-pl.lo)+len*i.size) w C a2 aa;obtain⟨r1,r2,r3,r4⟩:=UW pl.aF g (pl.cb+(y-pl.lo)+len*i.size) w;have H:j.le (j.bH b { pl with ver:=ver+1 }):=λg8 p hy=>by
     by_cases T:g8=b
     ·subst T;rw[hb]at hy;cases hy;exact⟨_,az.dE _ _ _,.inr aq⟩
     ·exact⟨p,by rw[az.cN _ T,hy],.inl rfl⟩
    have a1:=EG (w1:=w.setCells pl.aF (pl.cb+(y-pl.lo)+len*i.size) g) h b pl { pl with ver:=ver+1 } hb b4 rfl (.inr aq) r1 (λBx bd=>UQ _ _ _ _ _ bd) r2 r3 r4
     (.cells (c.take (y+len*i.size)++new) (ver+1) a9 false (pF ba (2*e))) (by
      refine⟨rfl,b4,aq,C',a8,bc,bb,k1,aq,λE u Y F=>?_,V.1,λt Q=>⟨(V.2 t (KI Q).1).1,λho=>by have:=(KI Q).2;omega,(V.2 t (KI Q).1).2.2⟩⟩;simp only at Y|-;rw[k3];have b8:(c.take (y+len*i.size)).length=y+len*i.size:=vd;rw[tL]at F;by_cases hA:E<y+len*i.size
      ·rw[ah aa,jP,ah hA]at F;rw[af aa];obtain⟨cv,q1,q2⟩:=be E u Y F;exact⟨cv,q1,q2.mono H⟩
      ·rw[af aa,b8]at F;obtain⟨cv,q1,q2⟩:=I.get F;have:E-(y+len*i.size)<g.length:=by
        rcases lT (E-(y+len*i.size)) g.length with hh|hh
        ·exact hh
        ·grind
       rw[ah aa];exact⟨cv,by rw[<-q1];congr 1;omega,q2.mono H⟩)
    refine⟨_,_,_,q,a1.1,?_,a1.2⟩;refine .slice _ _ _ _ _ _ _ _ _ (az.dE _ _ _) a0 G ar (λ_=>⟨.inr ⟨rfl,bE,rfl,c1⟩,λhh=>aa⟩)
   ·
    obtain⟨U,e1,e2,e3,e4,q⟩:=L aa;have H:j.le (j.bH b ⟨w.heap.size,y,0,(f.toArray++g.toArray++Builtin.zeroCells z.cells (grownCap w (len+n) o e-(len+n))).size,ver+1,false⟩):=λg8 p hy=>by
     by_cases T:g8=b
     ·subst T;rw[hb]at hy;cases hy;exact⟨_,az.dE _ _ _,.inr aq⟩
     ·exact⟨p,by rw[az.cN _ T,hy],.inl rfl⟩
    have b1:=Xy9 h _ e1 e2 e3 e4 b pl ⟨w.heap.size,y,0,(f.toArray++g.toArray++Builtin.zeroCells z.cells (grownCap w (len+n) o e-(len+n))).size,ver+1,false⟩ hb rfl aq
     (.cells (c.take (y+len*i.size)++new) (ver+1) a9 false (pF ba (2*e))) (by
      refine⟨rfl,rfl,cF,_,e,0,0,by rw[e1];simp,rfl,λE u Y F=>?_,(λ_ E _ _ _=>aa),λt Q=>by have:=(KI Q).2;exact⟨aa,λho=>aa,.inl rfl⟩⟩;simp only at Y|-;have b8:(c.take (y+len*i.size)).length=y+len*i.size:=vd;have bs:((c.drop y).take (len*i.size)++new)[E-y]?=some u:=by
       rw[tL]at F|-;by_cases hA:E<y+len*i.size
       ·grind
       ·grind
      obtain⟨cv,q1,q2⟩:=(b2.append I).get bs;exact⟨cv,aq,q2.mono H⟩)
    refine⟨_,U,_,q,b1.1,?_,b1.2⟩;refine .slice _ _ _ _ _ _ _ _ _ (az.dE _ _ _) a0 X ar (λ_=>⟨.inr ⟨rfl,ar,ar,by simpa using ac⟩,λhh=>aa⟩)
 |_=>cases k
def Xqe{P k j m S w}(h:Rel k j m w){s x cs l v:ae}(r:aG j s cs)(y:aG j x l)
  {t xt ty e:TypeId} {i:TypeInfo} {d:TypeDesc} {z:ae} (u:P.underlying t=some (.slice e)) (f:P.underlying xt=some d) (hd:d=.string\/∃o,d=.slice o) (hi:P.info? e=some i) (A:i.zero=some z)
  (g:z.cells.size=i.size) (c:(∃b,x=.string b)->i.size=1) (q:fP e i.size i.bytes s x m=some (v,S)) :
  ∃cv Z a,(Builtin.append_ #[t,xt] ty #[cs,l]).run P w=.ok cv Z/\Rel k a S Z/\aG a v cv/\bW j m w a S Z:=by
 obtain⟨F,p,n⟩:=Xm2 q;obtain⟨cv,Z,a,B,C,D,E⟩:=Xlz (ty:=ty) h r y u f hd hi A g c p;exact⟨cv,Z,a,B,C.congr n,D,E.congr n⟩
end Go.Ab
end
