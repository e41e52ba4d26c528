/-
  An evaluator over abstract memories, and that what it answers the machine answers. No conditions.
-/
import GoSem.Step
import Derived.IntWalk
import Derived.Calls
import Derived.Orders
import Derived.LoopN
import Derived.Below
import Derived.Laws.IdiomCopy
import Derived.ArgAppend
set_option linter.unusedSimpArgs false
set_option linter.unusedVariables false

set_option maxRecDepth 100000
noncomputable section
namespace Go.Ab
inductive Tr (α:Type) where
 | nil
 | node (v:Option α) (l r:Tr α)
def Tr.get {α:Type} (t:Tr α):Nat->Option α:=
 Tr.rec (motive:=fun _=>Nat->Option α) (fun _=>none) (fun v _ _ gl gr p=>Bool.rec (Bool.rec (gr (Nat.div p 2)) (gl (Nat.div p 2)) (Nat.beq (Nat.mod p 2) 0)) v (Nat.beq p 1)) t
theorem brec {α:Type} (c:Bool) (a b:α):(Bool.rec b a c:α)=bif c then a else b:=by cases c <;> rfl
theorem Tr.get_nil {α:Type} (q:Nat):(Tr.nil:Tr α).get q=none:=rfl
theorem Tr.get_node {α:Type} (v:Option α) (l r:Tr α) (p:Nat):(Tr.node v l r).get p=bif Nat.beq p 1 then v else bif Nat.beq (p % 2) 0 then l.get (p / 2) else r.get (p / 2):=by
 rw [<- brec,<- brec]; rfl
def Tr.put {α:Type} (f:Nat) (t:Tr α) (p:Nat) (x:α):Tr α:=
 Nat.rec (motive:=fun _=>Tr α->Nat->Tr α) (fun t _=>t) (fun _ ih t p=>Tr.rec (motive:=fun _=>Tr α)
   (Bool.rec (Bool.rec (Tr.node none .nil (ih .nil (Nat.div p 2))) (Tr.node none (ih .nil (Nat.div p 2)) .nil) (Nat.beq (Nat.mod p 2) 0)) (Tr.node (some x) .nil .nil) (Nat.beq p 1))
   (fun v l r _ _=>Bool.rec (Bool.rec (Tr.node v l (ih r (Nat.div p 2))) (Tr.node v (ih l (Nat.div p 2)) r) (Nat.beq (Nat.mod p 2) 0)) (Tr.node (some x) l r) (Nat.beq p 1)) t) f t p
theorem Tr.put_nil {α:Type} (f:Nat) (p:Nat) (x:α):Tr.put (f + 1) .nil p x=bif Nat.beq p 1 then .node (some x) .nil .nil else bif Nat.beq (p % 2) 0 then .node none (Tr.put f .nil (p / 2) x) .nil else .node none .nil (Tr.put f .nil (p / 2) x):=by
 rw [<- brec,<- brec]; rfl
theorem Tr.put_node {α:Type} (f:Nat) (v:Option α) (l r:Tr α) (p:Nat) (x:α):Tr.put (f + 1) (.node v l r) p x=bif Nat.beq p 1 then .node (some x) l r else bif Nat.beq (p % 2) 0 then .node v (Tr.put f l (p / 2) x) r else .node v l (Tr.put f r (p / 2) x):=by
 rw [<- brec,<- brec]; rfl
inductive AObj where
 | cells (c:List Value) (ver fro:Nat) (ro:Bool) (ty:Option Nat)
 | map (es:List (Value × Value × Nat)) (clock:Nat)
 | siter (s:ByteArray) (pos:Nat)
 | miter (m:Option Nat) (since:Nat) (seen:Option Nat) (last:Nat)
def X8t (t:Tr Value) (n:Nat):List Value:=(List.range n).map fun i=>(t.get (i + 1)).getD (.tuple #[])
def lkL (l:List (Nat × Nat)) (c:Nat):Option Nat:=List.rec none (fun e _ ih=>Prod.rec (fun c' r=>Bool.rec ih (some r) (Nat.beq c' c)) e) l
def lkT (t:Tr (List (Nat × Nat))) (c:Nat):Option Nat:=Option.rec none (fun l=>lkL l c) (t.get (Nat.add 256 (Nat.mod c 251)))
def bitN (H x:Nat):Bool:=Nat.beq (Nat.mod (Nat.shiftRight H x) 2) 1
structure TB where
 l:List (Nat × Nat)
 n:Nat
 t:Tr (List (Nat × Nat))
 wf:(∀ c,lkT t c=lkL l.reverse c)/\n=l.length
structure SB where
 k:IntKind
 l:List Nat
 n:Nat
 H:Nat
 wf:(∀ x,bitN H x=l.contains x)/\n=l.length
def keyV (c:Nat):Value:=.agg ⟨[.int .i32 (Int.ofNat (c % 65536)),.int .i32 (Int.ofNat (c / 65536 % 65536)),.int .i32 (Int.ofNat (c / 4294967296))]⟩
def X101 (l:List (Nat × Nat)):List (Value × Value × Nat):=l.zipIdx.map fun e=>(keyV e.1.1,.int .i32 (Int.ofNat e.1.2),e.2)
def X104 (k:IntKind) (l:List Nat):List (Value × Value × Nat):=l.zipIdx.map fun e=>(.int k (Int.ofNat e.1),.bool true,e.2)
def ndc (N j:Nat):Nat:=Nat.mod (Nat.shiftRight N (Nat.mul 16 j)) 65536
def ndl (N n:Nat):List Value:=(List.range n).map fun j=>.int .i32 (Int.ofNat (ndc N j))
inductive Sp where
 | nds (N n ver:Nat) (ty:Option Nat)
 | tab (T:TB)
 | set (S:SB)
def Sp.norm (s:Sp):AObj:=match s with | .nds N n ver ty=>.cells (ndl N n) ver 0 false ty | .tab T=>.map (X101 T.l.reverse) T.n | .set S=>.map (X104 S.k S.l.reverse) S.n
inductive Raw where
 | plain (o:AObj)
 | arr (t:Tr Value) (n ver fro:Nat) (ro:Bool) (ty:Option Nat)
 | sp (s:Sp)
def Raw.norm (r:Raw):AObj:=Raw.casesOn r (fun o=>o) (fun t n ver fro ro ty=>.cells (X8t t n) ver fro ro ty) (fun s=>s.norm)
structure Mem where
 next:Nat
 low:Nat
 tr:Tr Raw
def Mem.get (m:Mem) (b:Nat):Option AObj:=Option.rec none (fun r=>some (Raw.norm r)) (m.tr.get (Nat.succ b))
theorem Mem.get_def (m:Mem) (b:Nat):m.get b=(m.tr.get (b + 1)).map Raw.norm:=by
 show (Option.rec _ (fun r=>some (Raw.norm r)) (m.tr.get (b + 1)):Option _)=_;cases m.tr.get _ <;> rfl
def Mem.putR (m:Mem) (b:Nat) (o:Raw):Mem:=
 Mem.rec (motive:=fun _=>Mem) (fun n l t=>Bool.rec ⟨n,l,Tr.put (Nat.succ b) t (Nat.succ b) o⟩ ⟨n,b,Tr.put (Nat.succ b) t (Nat.succ b) o⟩ (Nat.blt b l)) m
theorem Mem.putR_def (m:Mem) (b:Nat) (o:Raw):m.putR b o={ next:=m.next,low:=min m.low b,tr:=Tr.put (b + 1) m.tr (b + 1) o }:=by
 cases m with
 | mk n l t =>
  show (Bool.rec _ _ _:Mem)=_;cases h:Nat.blt b l
  ·have:¬ b < l:=fun x=>by have:=Nat.blt_eq.mpr x; grind
   show (⟨n,l,_⟩:Mem)=⟨n,min l b,_⟩
   grind
  ·have:=Nat.blt_eq.mp h;show (⟨n,b,_⟩:Mem)=⟨n,min l b,_⟩
   grind
def Mem.put (m:Mem) (b:Nat) (o:AObj):Mem:=m.putR b (.plain o)
theorem Mem.put_def (m:Mem) (b:Nat) (o:AObj):m.put b o={ next:=m.next,low:=min m.low b,tr:=Tr.put (b + 1) m.tr (b + 1) (.plain o) }:=Mem.putR_def m b (.plain o)
def Mem.push (m:Mem) (o:AObj):Mem:={ next:=Nat.succ m.next,low:=m.low,tr:=Tr.put (Nat.succ m.next) m.tr (Nat.succ m.next) (.plain o) }
def one (v:Value):Bool:=match v with | .agg _ | .tuple _=>false | _=>true
def aNew (ty:Nat) (cs:List Value) (m:Mem):Value × Mem:=(.pointer (some ⟨m.next,0,some 0⟩),m.push (.cells cs 0 0 false (some (2 * ty + 1))))
def ovrN:List Value->List Value->Option (List Value)
 | c,[]=>some c
 | [],_ :: _=>none
 | _ :: c,v :: vs=>(match ovrN c vs with | some l=>some (v :: l) | none=>none)
def setN:List Value->Nat->List Value->Option (List Value)
 | [],o,vs=>(match Nat.beq o 0 with | true=>ovrN [] vs | false=>none)
 | a :: c,o,vs=>(match Nat.beq o 0 with | true=>ovrN (a :: c) vs | false=>(match setN c (o - 1) vs with | some l=>some (a :: l) | none=>none))
def appN (new:List Value):List Value->Nat->Option (List Value)
 | [],k=>(match Nat.beq k 0 with | true=>some new | false=>none)
 | a :: c,k=>(match Nat.beq k 0 with | true=>some new | false=>(match appN new c (k - 1) with | some l=>some (a :: l) | none=>none))
def vInt {α:Type} (v:Value) (f:IntKind->Int->Option α):Option α:=v.casesOn (fun _=>none) (f) (fun _ _=>none) (fun _ _ _=>none) (fun _=>none) (fun _=>none) (fun _ _ _=>none) (fun _=>none) (fun _=>none) (fun _ _ _=>none) (none) (fun _ _=>none) (none) (fun _=>none) (fun _=>none)
theorem Xou {α:Type} (v:Value) (f:IntKind->Int->Option α):vInt v f=match v with | .int k n=>f k n | _=>none:=by cases v <;> rfl
def X10j (v:Value):List Value:=v.casesOn (fun _=>[v]) (fun _ _=>[v]) (fun _ _=>[v]) (fun _ _ _=>[v]) (fun _=>[v]) (fun _=>[v]) (fun _ _ _=>[v]) (fun _=>[v]) (fun _=>[v]) (fun _ _ _=>[v]) ([v]) (fun _ _=>[v]) ([v]) (fun a=>Array.rec (fun l=>l) a) (fun _=>[v])
theorem X10m (v:Value):X10j v=v.cells.toList:=by cases v <;> rfl
def vOne:=@one
theorem Xwd (v:Value):vOne v=one v:=rfl
def X82 (l:List Value):Bool:=List.rec true (fun a _ ih=>Bool.rec false ih (vOne a)) l
theorem X39 (l:List Value):X82 l=l.all one:=by
 induction l with
 | nil=>rfl
 | cons a l ih =>
  show (Bool.rec _ (X82 l) _:Bool)=_;rw [ih,Xwd,List.all_cons];cases one a <;> rfl
def Xl9 {α:Type} (o:Option AObj) (f:List Value->Nat->Nat->Bool->Option Nat->Option α):Option α:=
 Option.rec none (fun o=>AObj.casesOn o f (fun _ _=>none) (fun _ _=>none) (fun _ _ _ _=>none)) o
def lenA {α:Type} (l:List α) (n:Nat):Nat:=Nat.add (List.rec (motive:=fun _=>Nat) 0 (fun _ _ ih=>Nat.succ ih) l) n
theorem Xcy {α:Type}:∀ (l:List α) (n:Nat),lenA l n=l.length + n
 | [],_=>rfl
 | a :: l,n=>by
  have h:=Xcy l 0;show Nat.succ (lenA l 0) + n=_
  grind
def nthR (c:List Value):Nat->Option Value:=List.rec (motive:=fun _=>Nat->Option Value) (fun _=>none) (fun a _ ih o=>Nat.rec (motive:=fun _=>Option Value) (some a) (fun k _=>ih k) o) c
theorem Xgb:∀ (c:List Value) (o:Nat),nthR c o=c[o]?
 | [],_=>by rfl
 | _ :: _,0=>rfl
 | _ :: c,o + 1=>by rw [List.getElem?_cons_succ,<- Xgb c o]; rfl
def ovrR (c:List Value):List Value->Option (List Value):=List.rec (motive:=fun _=>List Value->Option (List Value)) (fun vs=>List.rec (some []) (fun _ _ _=>none) vs)
 (fun a c ih vs=>List.rec (motive:=fun _=>Option (List Value)) (some (a :: c)) (fun v vs _=>Option.rec none (fun l=>some (v :: l)) (ih vs)) vs) c
theorem Xj3:∀ (c vs:List Value),ovrR c vs=ovrN c vs
 | [],[]=>rfl
 | [],_ :: _=>rfl
 | _ :: _,[]=>rfl
 | a :: c,v :: vs=>by
  show (Option.rec none (fun l=>some (v :: l)) (ovrR c vs))=(match ovrN c vs with | some l=>some _ | none=>none)
  rw [Xj3 c vs]; cases ovrN c vs <;> rfl
def setR (vs:List Value) (c:List Value):Nat->Option (List Value):=List.rec (motive:=fun _=>Nat->Option (List Value)) (fun o=>Nat.rec (motive:=fun _=>Option (List Value)) (ovrR [] vs) (fun _ _=>none) o)
 (fun a c ih o=>Nat.rec (motive:=fun _=>Option (List Value)) (ovrR (a :: c) vs) (fun k _=>Option.rec none (fun l=>some (a :: l)) (ih k)) o) c
theorem Xdn (vs:List Value):∀ (c:List Value) (o:Nat),setR vs c o=setN c o vs
 | [],0=>Xj3 [] vs
 | [],_ + 1=>rfl
 | a :: c,0=>Xj3 (a :: c) vs
 | a :: c,o + 1=>by
  show (Option.rec none (fun l=>some (a :: l)) (setR vs c o))=(match setN c o vs with | some l=>some _ | none=>none)
  rw [Xdn vs c o]; cases setN c o vs <;> rfl
def appR (new:List Value) (c:List Value):Nat->Option (List Value):=List.rec (motive:=fun _=>Nat->Option (List Value)) (fun o=>Nat.rec (motive:=fun _=>Option (List Value)) (some new) (fun _ _=>none) o)
 (fun a _ ih o=>Nat.rec (motive:=fun _=>Option (List Value)) (some new) (fun k _=>Option.rec none (fun l=>some (a :: l)) (ih k)) o) c
theorem Xbz (new:List Value):∀ (c:List Value) (k:Nat),appR new c k=appN new c k
 | [],0=>rfl
 | [],_ + 1=>rfl
 | _ :: _,0=>rfl
 | a :: c,k + 1=>by
  show (Option.rec none (fun l=>some (a :: l)) (appR new c k))=(match appN new c k with | some l=>some _ | none=>none)
  rw [Xbz new c k]; cases appN new c k <;> rfl
def dropK:Nat->List Value->List Value
 | 0,c=>c
 | _ + 1,[]=>[]
 | k + 1,_ :: c=>dropK k c
def Xrs:Nat->List Value->List Value
 | 0,c=>c
 | q + 1,c=>dropK 16 (Xrs q c)
theorem Xkr:∀ (k:Nat) (c:List Value),dropK k c=c.drop k
 | 0,c=>rfl
 | k + 1,[]=>by rfl
 | k + 1,a :: c=>by simp only [dropK,Xkr k c,List.drop_succ_cons]
theorem Xkw:∀ (q:Nat) (c:List Value),Xrs q c=c.drop (16 * q)
 | 0,c=>rfl
 | q + 1,c=>by
  simp only [Xrs,Xkr,Xkw q c,List.drop_drop];congr 1
def nthV (c:List Value) (o:Nat):Option Value:=match Nat.blt o 16 with
 | true=>nthR c o
 | false=>nthR (Xrs (Nat.div o 16) c) (Nat.mod o 16)
theorem Xom (c:List Value) (o:Nat):nthV c o=c[o]?:=by
 unfold nthV;split
 ·exact Xgb c o
 ·rw [Xgb,Xkw,List.getElem?_drop];congr 1;show 16 * (o / 16) + o % 16=o;omega
def Xec {α:Type} (n:Nat) (f:Nat->α):α:=match n with | 0=>f 0 | k + 1=>f (k + 1)
theorem X6n {α:Type} (n:Nat) (f:Nat->α):Xec n f=f n:=by cases n <;> rfl
def Xem {α:Type} (n:Nat) (f:Nat->α):α:=Nat.rec (motive:=fun _=>α) (f 0) (fun k _=>f (Nat.succ k)) n
theorem Xp2 {α:Type} (n:Nat) (f:Nat->α):Xem n f=f n:=by cases n <;> rfl
theorem Xja:∀ (c vs:List Value),ovrN c vs=if vs.length <= c.length then some (vs ++ c.drop vs.length) else none
 | c,[]=>by cases c <;> simp [ovrN]
 | [],_ :: _=>by rfl
 | a :: c,v :: vs=>by
  simp only [ovrN,Xja c vs,List.length_cons,Nat.add_le_add_iff_right]
  grind
theorem Xd1:∀ (c:List Value) (o:Nat) (vs:List Value),setN c o vs=if o + vs.length <= c.length then some (c.take o ++ vs ++ c.drop (o + vs.length)) else none
 | [],0,vs=>by
  have h:Nat.beq 0 0=true:=rfl;simp only [setN,Xja];simp
 | [],o + 1,vs=>by
  have h:Nat.beq (o + 1) 0=false:=rfl;simp only [setN,h,List.length_nil];simp
 | a :: c,0,vs=>by
  have h:Nat.beq 0 0=true:=rfl;simp only [setN,Xja,Nat.zero_add,List.take_zero,List.nil_append]
 | a :: c,o + 1,vs=>by
  have h:Nat.beq (o + 1) 0=false:=rfl;have e:o + 1 + vs.length=(o + vs.length) + 1:=by omega
  simp only [setN,h,Nat.add_sub_cancel,Xd1 c o vs,List.length_cons,e,List.take_succ_cons,List.drop_succ_cons,Nat.add_le_add_iff_right];by_cases hh:o + vs.length <= c.length
  ·rw [if_pos hh,if_pos hh]; rfl
  ·rw [if_neg hh,if_neg hh]
theorem Xc8 (new:List Value):∀ (c:List Value) (k:Nat),appN new c k=if k <= c.length then some (c.take k ++ new) else none
 | [],0=>by
  rfl
 | [],k + 1=>by rfl
 | a :: c,0=>by
  rfl
 | a :: c,k + 1=>by
  have h:Nat.beq (k + 1) 0=false:=rfl;simp only [appN,h,Nat.add_sub_cancel,Xc8 new c k,List.length_cons,Nat.add_le_add_iff_right]
  grind
def X43 (s:Option Nat) (v:Nat):Bool:=Option.rec false (fun x=>Nat.beq x v) s
theorem X1q (s:Option Nat) (v:Nat):X43 s v=decide (s=some v):=by
 cases s with
 | none=>rfl
 | some x =>
  show Nat.beq x v=_;simp;cases h:Nat.beq x v
  ·exact (decide_eq_false (Nat.ne_of_beq_eq_false h)).symm
  simp_all
def kbeq (a b:IntKind):Bool:=match a,b with | .i8,.i8 | .i16,.i16 | .i32,.i32 | .i64,.i64 | .u8,.u8 | .u16,.u16 | .u32,.u32 | .u64,.u64=>true | _,_=>false
theorem Xl2 (a b:IntKind):kbeq a b=decide (a=b):=by cases a <;> cases b <;> rfl
def ieq (a b:Int):Bool:=match a,b with | .ofNat n,.ofNat k=>Nat.beq n k | .negSucc n,.negSucc k=>Nat.beq n k | _,_=>false
theorem nbeq (a b:Nat):Nat.beq a b=decide (a=b):=by
 cases h:Nat.beq a b
 ·exact (decide_eq_false (Nat.ne_of_beq_eq_false h)).symm
 simp_all
theorem nblt (a b:Nat):Nat.blt a b=decide (a < b):=by
 have:Nat.blt a b=true ↔ a < b:=by simp [Nat.blt,Nat.ble_eq]; omega
 grind
theorem nble (a b:Nat):Nat.ble a b=decide (a <= b):=by
 cases h:Nat.ble a b
 ·exact (decide_eq_false (fun x=>by rw [Nat.ble_eq.mpr x] at h; cases h)).symm
 simp_all
theorem Xo4 (a b:Int):ieq a b=(a == b):=by
 have:(a == b)=decide _:=rfl;rw [this];cases a <;> cases b <;> simp only [ieq,nbeq,Int.ofNat_eq_natCast,decide_eq_decide,eq_comm (a:=false),decide_eq_false_iff_not] <;> omega
def ilt (a b:Int):Bool:=match a,b with | .ofNat n,.ofNat k=>Nat.blt n k | .negSucc _,.ofNat _=>true | .ofNat _,.negSucc _=>false | .negSucc n,.negSucc k=>Nat.blt k n
theorem Xut (a b:Int):ilt a b=decide (a < b):=by
 cases a <;> cases b <;> simp only [ilt,nblt,Int.ofNat_eq_natCast,decide_eq_decide,eq_comm (a:=true),eq_comm (a:=false),decide_eq_true_eq,decide_eq_false_iff_not] <;> omega
def ile (a b:Int):Bool:=match a,b with | .ofNat n,.ofNat k=>Nat.ble n k | .negSucc _,.ofNat _=>true | .ofNat _,.negSucc _=>false | .negSucc n,.negSucc k=>Nat.ble k n
theorem Xui (a b:Int):ile a b=decide (a <= b):=by
 cases a <;> cases b <;> simp only [ile,nble,Int.ofNat_eq_natCast,decide_eq_decide,eq_comm (a:=true),eq_comm (a:=false),decide_eq_true_eq,decide_eq_false_iff_not] <;> omega
def Xqd (k:IntKind) (n:Int):Int:=
 match k,n with
 | .i64,.ofNat x=>(match Nat.blt x 9223372036854775808 with | true=>.ofNat x | false=>IntKind.wrap .i64 (.ofNat x))
 | .i64,.negSucc x=>(match Nat.blt x 9223372036854775808 with | true=>.negSucc x | false=>IntKind.wrap .i64 (.negSucc x))
 | .u8,.ofNat x=>(match Nat.blt x 256 with | true=>.ofNat x | false=>IntKind.wrap .u8 (.ofNat x))
 | .u32,.ofNat x=>(match Nat.blt x 4294967296 with | true=>.ofNat x | false=>IntKind.wrap .u32 (.ofNat x))
 | .u64,.ofNat x=>(match Nat.blt x 18446744073709551616 with | true=>.ofNat x | false=>IntKind.wrap .u64 (.ofNat x))
 | k,n=>IntKind.wrap k n
def Xrn (k:IntKind) (n:Int):Int:=
 Int.rec (motive:=fun _=>Int) (fun x=>IntKind.rec (motive:=fun _=>Int) (Xqd .i8 n) (Xqd .i16 n) (Bool.rec (IntKind.wrap .i32 n) n (Nat.blt x 2147483648)) (Bool.rec (IntKind.wrap .i64 n) n (Nat.blt x 9223372036854775808))
  (Bool.rec (IntKind.wrap .u8 n) n (Nat.blt x 256)) (Bool.rec (IntKind.wrap .u16 n) n (Nat.blt x 65536)) (Bool.rec (IntKind.wrap .u32 n) n (Nat.blt x 4294967296)) (Bool.rec (IntKind.wrap .u64 n) n (Nat.blt x 18446744073709551616)) k) (fun _=>Xqd k n) n
theorem Xti (k:IntKind) (n:Int):Xqd k n=k.wrap n:=by
 unfold Xqd;split
 ·split
  ·rename_i h;rw [nblt,decide_eq_true_eq] at h;exact (IntWalk.i64_in _ (by grind)).symm
  ·rfl
 ·split
  ·rename_i h;rw [nblt,decide_eq_true_eq] at h;exact (IntWalk.i64_in _ (by omega)).symm
  ·rfl
 ·split
  ·rename_i h;rw [nblt,decide_eq_true_eq] at h;exact (IntWalk.u8_in _ (by grind)).symm
  ·rfl
 ·split
  ·rename_i h;rw [nblt,decide_eq_true_eq] at h;exact (IntWalk.u32_in _ (by grind)).symm
  ·rfl
 ·split
  ·rename_i h;rw [nblt,decide_eq_true_eq] at h;exact (IntWalk.u64_in _ (by grind)).symm
  ·rfl
 ·rfl
theorem Xsr (k:IntKind) (n:Int):Xrn k n=k.wrap n:=by
 cases n with
 | negSucc x=>exact Xti k _
 | ofNat x =>
  cases k
  ·rfl
  ·rfl
  ·show (Bool.rec _ _ _:Int)=_;cases h:Nat.blt x 2147483648
   ·rfl
   ·rw [nblt,decide_eq_true_eq] at h;exact (IntWalk.i32_in _ (by grind)).symm
  ·show (Bool.rec _ _ _:Int)=_;cases h:Nat.blt x 9223372036854775808
   ·rfl
   ·rw [nblt,decide_eq_true_eq] at h;exact (IntWalk.i64_in _ (by grind)).symm
  ·show (Bool.rec _ _ _:Int)=_;cases h:Nat.blt x 256
   ·rfl
   ·rw [nblt,decide_eq_true_eq] at h;exact (IntWalk.u8_in _ (by grind)).symm
  ·show (Bool.rec _ _ _:Int)=_;cases h:Nat.blt x 65536
   ·rfl
   ·rw [nblt,decide_eq_true_eq] at h;exact (IntWalk.u16_in _ (by grind)).symm
  ·show (Bool.rec _ _ _:Int)=_;cases h:Nat.blt x 4294967296
   ·rfl
   ·rw [nblt,decide_eq_true_eq] at h;exact (IntWalk.u32_in _ (by grind)).symm
  ·show (Bool.rec _ _ _:Int)=_;cases h:Nat.blt x 18446744073709551616
   ·rfl
   ·rw [nblt,decide_eq_true_eq] at h;exact (IntWalk.u64_in _ (by grind)).symm
def Xyi (a b:Int):Int:=Int.rec (motive:=fun _=>Int) (fun n=>Int.rec (motive:=fun _=>Int) (fun k=>.ofNat (Nat.add n k)) (fun _=>Int.add a b) b) (fun _=>Int.add a b) a
theorem Xsc (a b:Int):Xyi a b=a + b:=by cases a <;> cases b <;> rfl
def Xz2 (a b:Int):Int:=Int.rec (motive:=fun _=>Int) (fun n=>Int.rec (motive:=fun _=>Int) (fun k=>Bool.rec (Int.sub a b) (.ofNat (Nat.sub n k)) (Nat.ble k n)) (fun _=>Int.sub a b) b) (fun _=>Int.sub a b) a
theorem Xtg (a b:Int):Xz2 a b=a - b:=by
 cases a <;> cases b <;> first | rfl | skip
 rename_i n k;show (Bool.rec _ _ _:Int)=_;cases h:Nat.ble k n
 ·rfl
 ·rw [nble,decide_eq_true_eq] at h
  grind
def ieqR:=@ieq
theorem Xo5 (a b:Int):ieqR a b=ieq a b:=rfl
def iltR:=@ilt
theorem Xvu (a b:Int):iltR a b=ilt a b:=rfl
def ileR:=@ile
theorem Xwo (a b:Int):ileR a b=ile a b:=rfl
def beqL (l k:List UInt8):Bool:=match l,k with | [],[]=>true | a :: l,b :: k=>(match Nat.beq a.toNat b.toNat with | true=>beqL l k | false=>false) | _,_=>false
def beqR (l:List UInt8):List UInt8->Bool:=List.rec (motive:=fun _=>List UInt8->Bool) (fun k=>List.rec true (fun _ _ _=>false) k) (fun a _ ih k=>List.rec (motive:=fun _=>Bool) false (fun b k _=>Bool.rec false (ih k) (Nat.beq a.toNat b.toNat)) k) l
theorem Xp4:∀ (l k:List UInt8),beqR l k=beqL l k
 | [],[]=>rfl
 | [],_ :: _=>rfl
 | _ :: _,[]=>rfl
 | a :: l,b :: k=>by
  show (Bool.rec _ (beqR l k) _:Bool)=_;simp only [beqL,Xp4 l k];cases Nat.beq _ _ <;> rfl
theorem Xkm:∀ (l k:List UInt8),beqL l k=(l == k)
 | [],[]=>rfl
 | [],_ :: _=>rfl
 | _ :: _,[]=>rfl
 | a :: l,b :: k=>by
  have e:((a :: l) == (b :: k))=(decide _ && (l == k)):=rfl;rw [e];simp only [beqL,nbeq];by_cases h:a=b
  ·subst h;simp [Xkm l k]
  ·have:¬ a.toNat=b.toNat:=fun x=>h (UInt8.toNat_inj.mp x)
   grind
def Xy (m:Mem) (a:Addr) (n:Nat):Option (List Value):=
 match m.get a.block with
 | some (.cells c ver _ _ _)=>if a.spot=some ver && a.off + n <= c.length then some ((c.drop a.off).take n) else none
 | _=>none
def getCells:=@Xy
theorem Xn (m:Mem) (a:Addr) (n:Nat):getCells m a n=Xy m a n:=rfl
def X53 (m:Mem) (a:Addr) (vs:List Value):Option Mem:=
 match m.get a.block with
 | some (.cells c ver fro false ty)=>if a.spot=some ver && fro <= a.off && a.off + vs.length <= c.length && vs.all one then some (m.put a.block (.cells (c.take a.off ++ vs ++ c.drop (a.off + vs.length)) ver fro false ty)) else none
 | _=>none
def Xn4 (t:Tr Value) (i:Nat):Value:=Option.rec (.tuple #[]) (fun v=>v) (t.get (Nat.succ i))
theorem Xf4 (t:Tr Value) (i:Nat):Xn4 t i=(t.get (i + 1)).getD (.tuple #[]):=by
 show (Option.rec _ (fun v=>v) (t.get (i + 1)):Value)=_;cases t.get _ <;> rfl
theorem X33 (t:Tr Value) (n:Nat):(X8t t n).length=n:=by simp [X8t]
theorem X58 (t:Tr Value) (n i:Nat):(X8t t n)[i]?=if i < n then some (Xn4 t i) else none:=by
 unfold X8t;rw [List.getElem?_map];by_cases h:i < n
 ·rw [List.getElem?_range h]; simp [h,Xf4]
 grind
def Xdw (vs:List Value):Nat->Tr Value->Tr Value:=List.rec (motive:=fun _=>Nat->Tr Value->Tr Value) (fun _ t=>t) (fun v _ ih o t=>ih (Nat.succ o) (Tr.put (Nat.succ o) t (Nat.succ o) v)) vs
def X9m (r:Raw) (off:Nat) (spot:Option Nat) (vs:List Value):Option Raw:=
 Raw.casesOn (motive:=fun _=>Option Raw) r
  (fun o=>Xl9 (some o) fun c ver fro ro ty=>Bool.rec (Bool.rec none (Bool.rec none (Bool.rec none (Option.rec none (fun c'=>some (.plain (.cells c' ver fro false ty))) (setR vs c off)) (X82 vs)) (Nat.ble fro off)) (X43 spot ver)) none ro)
  (fun t n ver fro ro ty=>Bool.rec (Bool.rec none (Bool.rec none (Bool.rec none (Bool.rec none (some (.arr (Xdw vs off t) n ver fro false ty)) (Nat.ble (Nat.add off (lenA vs 0)) n)) (X82 vs)) (Nat.ble fro off)) (X43 spot ver)) none ro)
  (fun s=>Xl9 (some s.norm) fun c ver fro ro ty=>Bool.rec (Bool.rec none (Bool.rec none (Bool.rec none (Option.rec none (fun c'=>some (.plain (.cells c' ver fro false ty))) (setR vs c off)) (X82 vs)) (Nat.ble fro off)) (X43 spot ver)) none ro)
def setCells (m:Mem) (a:Addr) (vs:List Value):Option Mem:=
 Option.rec none (fun r=>Option.rec none (fun r'=>some (m.putR a.block r')) (X9m r a.off a.spot vs)) (m.tr.get (Nat.succ a.block))
def Xh0 (agg:Bool) (size:Nat) (x:Value) (m:Mem):Option Value:=
 match x with
 | .pointer (some a)=>match agg with
  | true=>match getCells m a size with | some cs=>some (.agg cs.toArray) | none=>none
  | false=>match getCells m a 1 with | some [v]=>some v | _=>none
 | _=>none
def Xgz (agg:Bool) (size:Nat) (x:Value) (m:Mem):Option Value:=
 match x with
 | .pointer (some a)=>match agg with
  | true=>match getCells m a size with | some cs=>some (.agg cs.toArray) | none=>none
  | false=>(match m.get a.block with
   | some (.cells c ver _ _ _)=>(match X43 a.spot ver with | true=>nthV c a.off | false=>none)
   | _=>none)
 | _=>none
def X8:=@Xgz
theorem Xde (agg:Bool) (size:Nat) (x:Value) (m:Mem):X8 agg size x m=Xgz agg size x m:=rfl
theorem Xbv (agg:Bool) (size:Nat) (x:Value) (m:Mem):X8 agg size x m=Xh0 agg size x m:=by
 rw [Xde];unfold Xgz Xh0;split
 ·rename_i a;cases agg
  ·simp only;rw [Xn];unfold Xy;split
   ·rename_i c ver _ _ _ _;rw [X1q,Xom];by_cases h:a.spot=some ver
    ·simp only [h,decide_true,Bool.true_and];by_cases h2:a.off + 1 <= c.length
     ·simp only [h2,decide_true,if_true];rw [List.drop_eq_getElem_cons (by omega),List.take_succ_cons,List.take_zero,List.getElem?_eq_getElem (by omega)]
     grind
    ·simp [h]
   ·rfl
  ·rfl
 ·rfl
def Xa4 (size:Nat) (x v:Value) (m:Mem):Option Mem:=
 match x with
 | .pointer (some a)=>if v.cells.size=size then setCells m a v.cells.toList else none
 | _=>none
def Xd:=@Xa4
theorem X9r (size:Nat) (x v:Value) (m:Mem):Xd size x v m=Xa4 size x v m:=rfl
def Xae (x:Value):Option Value:=
 match x with
 | .pointer none | .nilIface | .nilFunc=>none
 | .func (.method _) _ _=>none
 | x=>some x
def X21:=@Xae
theorem Xhb (x:Value):X21 x=Xae x:=rfl
inductive EqPl where
 | bool | int | str | ptr | slice | map | func | iface
 | struct (fs:List (Nat × Nat × Bool × EqPl))   -- offset,size,aggregate?,plan
 | no
def partOf (agg:Bool) (size off:Nat) (cs:Array Value):Option Value:=
 if agg then some (.agg (cs.extract off (off + size))) else cs[off]?
mutual
def aEq:EqPl->Value->Value->Option Bool
 | .bool,.bool a,.bool b=>some (a == b)
 | .int,.int k a,.int k' b=>if k=k' then some (a == b) else none
 | .str,.string a,.string b=>some (a.data.toList == b.data.toList)
 | .ptr,.pointer none,.pointer b=>some b.isNone
 | .ptr,.pointer (some _),.pointer none=>some false
 | .slice,.slice none _ _,.slice b _ _=>some b.isNone
 | .slice,.slice (some _) _ _,.slice none _ _=>some false
 | .map,.map none,.map b=>some b.isNone
 | .map,.map (some _),.map none=>some false
 | .func,.nilFunc,.nilFunc=>some true
 | .func,.nilFunc,.func _ _ _ | .func,.func _ _ _,.nilFunc=>some false
 | .iface,.nilIface,.nilIface=>some true
 | .iface,.nilIface,.iface _ _ | .iface,.iface _ _,.nilIface=>some false
 | .iface,.iface t _,.iface u _=>if t=u then none else some false
 | .struct fs,.agg xs,.agg ys=>aEqs fs xs ys
 | _,_,_=>none
def aEqs:List (Nat × Nat × Bool × EqPl)->Array Value->Array Value->Option Bool
 | [],_,_=>some true
 | (off,size,agg,p) :: fs,xs,ys=>match partOf agg size off xs,partOf agg size off ys with
  | some a,some b=>match aEq p a b with
   | some true=>aEqs fs xs ys
   | r=>r
  | _,_=>none
end
def X5c (d:TypeDesc):Bool:=match d with | .struct _=>true | .array _ _=>true | _=>false
def X1j (P:Program):Nat->TypeId->EqPl
 | 0,_=>.no
 | d + 1,t=>match P.underlying t with
  | some .bool=>.bool
  | some (.int _)=>.int
  | some .string=>.str
  | some (.pointer _)=>.ptr
  | some (.slice _)=>.slice
  | some (.map _ _)=>.map
  | some (.func ..)=>.func
  | some (.interface _)=>.iface
  | some (.struct fs)=>if P.stoodInHeld t then .no else .struct ((fs.toList.filter (·.name ≠ "_")).map fun f=>match P.info? f.type,P.underlying f.type with
    | some i,some e=>(f.offset,i.size,X5c e,X1j P d f.type)
    | _,_=>(0,0,true,.no))
  | some (.array n e)=>match P.info? e,P.underlying e with
   | some i,some D=>.struct ((List.range n).map fun k=>(k * i.size,i.size,X5c D,X1j P d e))
   | _,_=>.no
  | _=>.no
def Xk6:List UInt8->List UInt8->Bool
 | _,[]=>false
 | [],_ :: _=>true
 | a :: x,b :: y=>a < b || (a == b && Xk6 x y)
def Xud (x:Value):Bool:=match x with | .agg _=>false | _=>true
def notNil (x y:Value):Bool:=match x,y with | .nilIface,.nilIface=>false | _,_=>true
def binO (op:BinOp) (c g:Bool) (p:EqPl) (x y:Value):Option Value:=
 match op,x,y with
 | .shl,.int k a,.int _ b=>if b < 0 then none else some (.int k (k.wrap (a * 2 ^ (min b.toNat k.bits))))
 | .shr,.int k a,.int _ b=>if b < 0 then none else some (.int k (a.fdiv (2 ^ (min b.toNat k.bits))))
 | op,.int k a,.int k' b =>
  if k ≠ k' then none else
  match op with
  | .add=>some (.int k (k.wrap (a + b)))
  | .sub=>some (.int k (k.wrap (a - b)))
  | .mul=>some (.int k (k.wrap (a * b)))
  | .quo=>if b=0 then none else some (.int k (k.wrap (a.tdiv b)))
  | .rem=>if b=0 then none else some (.int k (a.tmod b))
  | .and=>some (.int k (k.wrap (BitVec.ofInt k.bits a &&& BitVec.ofInt k.bits b).toNat))
  | .or=>some (.int k (k.wrap (BitVec.ofInt k.bits a ||| BitVec.ofInt k.bits b).toNat))
  | .xor=>some (.int k (k.wrap (BitVec.ofInt k.bits a ^^^ BitVec.ofInt k.bits b).toNat))
  | .andNot=>some (.int k (k.wrap (BitVec.ofInt k.bits a &&& ~~~ BitVec.ofInt k.bits b).toNat))
  | .eql=>some (.bool (a == b))
  | .neq=>some (.bool (a != b))
  | .lss=>some (.bool (decide (a < b)))
  | .leq=>some (.bool (decide (a <= b)))
  | .gtr=>some (.bool (decide (a > b)))
  | .geq=>some (.bool (decide (a ≥ b)))
  | _=>none
 | op,.string a,.string b =>
  match op with
  | .add=>if a.size + b.size < 2 ^ 62 then some (.string ⟨(a.data.toList ++ b.data.toList).toArray⟩) else none
  | .eql=>some (.bool (a.data.toList == b.data.toList))
  | .neq=>some (.bool (!(a.data.toList == b.data.toList)))
  | .lss=>some (.bool (Xk6 a.data.toList b.data.toList))
  | .leq=>some (.bool (Xk6 a.data.toList b.data.toList || a.data.toList == b.data.toList))
  | .gtr=>some (.bool (!(Xk6 a.data.toList b.data.toList || a.data.toList == b.data.toList)))
  | .geq=>some (.bool (!(Xk6 a.data.toList b.data.toList)))
  | _=>none
 | .eql,x,y=>if (g || Xud x) && (c || notNil x y) then match aEq p x y with | some b=>some (.bool b) | none=>none else none
 | .neq,x,y=>if (g || Xud x) && (c || notNil x y) then match aEq p x y with | some b=>some (.bool (!b)) | none=>none else none
 | _,_,_=>none
def Xq7 (op:BinOp) (c g:Bool) (p:EqPl) (k:IntKind) (a:Int) (k':IntKind) (b:Int):Option Value:=
 match kbeq k k' with
 | false=>binO op c g p (.int k a) (.int k' b)
 | true=>match op with
  | .add=>some (.int k (Xrn k (Xyi a b)))
  | .sub=>some (.int k (Xrn k (Xz2 a b)))
  | .mul=>some (.int k (Xrn k (Int.mul a b)))
  | .eql=>some (.bool (ieqR a b))
  | .neq=>some (.bool (!(ieqR a b)))
  | .lss=>some (.bool (iltR a b))
  | .leq=>some (.bool (ileR a b))
  | .gtr=>some (.bool (iltR b a))
  | .geq=>some (.bool (ileR b a))
  | op=>binO op c g p (.int k a) (.int k' b)
def binF (op:BinOp) (c g:Bool) (p:EqPl) (x y:Value):Option Value:=
 match x,y with
 | .int k a,.int k' b=>Xq7 op c g p k a k' b
 | .string a,.string b=>(match op with
  | .eql=>some (.bool (beqR a.data.toList b.data.toList))
  | .neq=>some (.bool (!(beqR a.data.toList b.data.toList)))
  | op=>binO op c g p (.string a) (.string b))
 | x,y=>binO op c g p x y
def ints:=@Xq7
def bin:=@binF
theorem Xwj (op:BinOp) (c g:Bool) (p:EqPl) (x y:Value):bin op c g p x y=binF op c g p x y:=rfl
theorem X1z (op:BinOp) (c g:Bool) (p:EqPl) (x y:Value):bin op c g p x y=binO op c g p x y:=by
 rw [Xwj];unfold binF;split
 ·rename_i k a k' b;unfold Xq7;split
  ·rfl
  ·rename_i h;rw [Xl2,decide_eq_true_eq] at h;subst h;have es:Int.sub a b=a - b:=rfl;have ea:Int.add a b=a + b:=rfl;have em:Int.mul a b=a * b:=rfl;have hk:¬ (k ≠ k):=fun h=>h rfl;cases op <;> simp only [binO,Xsr,Xsc,Xtg,Xo5,Xvu,Xwo,Xo4,Xut,Xui,  ] <;> first | rfl | simp [bne] | skip
 ·rename_i a b;cases op <;> simp only [binO,Xp4,Xkm]
 ·rfl
def un (op:UnOp) (x:Value):Option Value:=
 match op,x with
 | .neg,.int k n=>some (.int k (k.wrap (0 - n)))
 | .xor,.int k n=>some (.int k (k.wrap (BitVec.ofInt k.bits (if k.signed then -1 else k.max) ^^^ BitVec.ofInt k.bits n).toNat))
 | .not,.bool b=>some (.bool !b)
 | _,_=>none
inductive Cv where
 | int (k:IntKind) | same | bytes | str | intStr | no
 | toU (size:Nat)
 | fromU (f:Nat->Nat->Nat->Bool)
def Xxy (P:Program) (u e cells off:Nat):Bool:=liesAt P P.depth e (cells / P.cellsOf e) off u 1
def Xc5 (P:Program) (src dst:TypeId):Cv:=
 match P.underlying src,P.underlying dst with
 | some (.int _),some (.int k)=>.int k
 | some .string,some .string=>.same
 | some .string,some (.slice e)=>match P.underlying e with | some (.int .u8)=>.bytes | _=>.no
 | some (.slice e),some .string=>match P.underlying e with | some (.int .u8)=>.str | _=>.no
 | some (.int _),some .string=>.intStr
 | some (.pointer t),some .unsafePointer=>match P.info? t with | some i=>.toU i.size | none=>.no
 | some .unsafePointer,some (.pointer u)=>match P.info? u with | some _=>.fromU (Xxy P u) | none=>.no
 | _,_=>.no
def X1g:List Value->Option (List UInt8)
 | []=>some []
 | .int .u8 n :: r=>match X1g r with | some l=>some (UInt8.ofNat n.toNat :: l) | none=>none
 | _=>none
def conv (c:Cv) (x:Value) (m:Mem):Option (Value × Mem):=
 match c,x with
 | .int k,.int _ n=>some (.int k (k.wrap n),m)
 | .same,.string s=>some (.string s,m)
 | .intStr,.int _ n=>some (.string (Utf8.encode n),m)
 | .toU _,.pointer none=>some (.pointer none,m)
 | .toU size,.pointer (some a)=>match m.get a.block with
  | some (.cells c ver _ _ _)=>if decide (a.spot=some ver) && Nat.blt a.off c.length && Nat.blt 0 size then some (.pointer (some a),m) else none
  | _=>none
 | .fromU _,.pointer none=>some (.pointer none,m)
 | .fromU f,.pointer (some a)=>match m.get a.block with
  | some (.cells c ver _ _ (some t))=>if decide (a.spot=some ver) && Nat.beq (t % 2) 1 && f (t / 2) c.length a.off then some (.pointer (some a),m) else none
  | _=>none
 | .bytes,.string s=>some (.slice (some ⟨m.next,0,some 1⟩) s.size 0,m.push (.cells (s.data.toList.map fun b=>.int .u8 b.toNat) 0 0 false none))
 | .str,.slice none _ _=>some (.string ⟨#[]⟩,m)
 | .str,.slice (some a) n r=>match getCells m ⟨a.block,a.off,some (r / 2)⟩ n with
  | some cs=>match X1g cs with | some l=>some (.string ⟨l.toArray⟩,m) | none=>none
  | none=>none
 | _,_=>none
def Xl6 (cells:List Value) (off:Nat) (vs:List Value):List Value:=cells.take off ++ vs ++ cells.drop (off + vs.length)
def fill (place:Nat->Option (Nat × Nat)):List Value->List (Nat × Value)->Option (List Value)
 | cells,[]=>some cells
 | cells,(i,v) :: rest=>match place i with
  | some (off,size)=>if v.cells.size=size && off + size <= cells.length then fill place (Xl6 cells off v.cells.toList) rest else none
  | none=>none
def X10l (place:Nat->Option (Nat × Nat)) (cs:List Value) (ps:List (Nat × Value)):Option (List Value):=
 List.rec (motive:=fun _=>List Value->Option (List Value)) (fun c=>some c) (fun p _ ih c=>Prod.rec (fun i v=>Option.rec none (fun q=>Prod.rec (fun off size=>Bool.rec none (Option.rec none ih (setR (X10j v) c off)) (Nat.beq (lenA (X10j v) 0) size)) q) (place i)) p) ps cs
theorem Xvv (place:Nat->Option (Nat × Nat)):∀ (ps:List (Nat × Value)) (cs:List Value),X10l place cs ps=fill place cs ps
 | [],_=>rfl
 | (i,v) :: ps,cs=>by
  have ih:=Xvv place ps;show (Option.rec _ (fun q=>Prod.rec (fun off size=>Bool.rec none (Option.rec none (fun c=>X10l place c ps) (setR (X10j v) cs off)) (Nat.beq (lenA (X10j v) 0) size)) q) (place i):Option _)=_;simp only [fill];cases place i with
  | none=>rfl
  | some q =>
   obtain ⟨off,size⟩:=q;show (Bool.rec _ (Option.rec _ (fun c=>X10l _ c ps) (setR _ cs off)) (Nat.beq _ size):Option _)=_;rw [X10m,Xcy,nbeq,Xdn,Xd1];simp only [ih];by_cases h1:v.cells.size=size
   ·subst h1;by_cases h2:off + v.cells.size <= cs.length <;> simp [h2,Xl6]
   ·simp [h1]
def nthG {α:Type} (c:List α):Nat->Option α:=List.rec (motive:=fun _=>Nat->Option α) (fun _=>none) (fun a _ ih o=>Nat.rec (motive:=fun _=>Option α) (some a) (fun k _=>ih k) o) c
theorem X10k {α:Type}:∀ (c:List α) (o:Nat),nthG c o=c[o]?
 | [],_=>by rfl
 | _ :: _,0=>rfl
 | _ :: c,o + 1=>by rw [List.getElem?_cons_succ,<- X10k c o]; rfl
def Xj9 (zero:List Value) (places:List (Nat × Nat)) (parts:List (Nat × Value)):Option Value:=
 match fill (places[·]?) zero parts with | some cs=>some (.agg cs.toArray) | none=>none
def Xg (zero:List Value) (places:List (Nat × Nat)) (parts:List (Nat × Value)):Option Value:=
 Option.rec none (fun cs=>some (.agg ⟨cs⟩)) (X10l (nthG places) zero parts)
theorem Xpw (zero:List Value) (places:List (Nat × Nat)) (parts:List (Nat × Value)):Xg zero places parts=Xj9 zero places parts:=by
 have e:nthG _=(places[·]?):=funext fun i=>X10k _ i;unfold Xg Xj9;rw [Xvv,e];cases fill _ _ _ <;> rfl
def Xd6 (zero:List Value) (size:Nat) (parts:List (Nat × Value)):Option Value:=
 match fill (fun i=>some (i * size,size)) zero parts with | some cs=>some (.agg cs.toArray) | none=>none
def rep:Nat->List Value->List Value
 | 0,_=>[]
 | n + 1,z=>z ++ rep n z
def X2h (ty:Nat) (zero:List Value) (size len:Nat) (parts:List (Nat × Value)) (m:Mem):Option (Value × Mem):=
 match fill (fun i=>some (i * size,size)) (rep len zero) parts with
 | some cs=>if size=0 then none else some (.slice (some ⟨m.next,0,some size⟩) len 1,m.push (.cells cs 0 0 false (some (2 * ty))))
 | none=>none
def X5 (ty:Nat) (zero:List Value) (size len:Nat) (parts:List (Nat × Value)) (m:Mem):Option (Value × Mem):=
 Option.rec none (fun cs=>Nat.rec (motive:=fun _=>Option (Value × Mem)) none (fun _ _=>some (.slice (some ⟨m.next,0,some size⟩) len 1,m.push (.cells cs 0 0 false (some (Nat.mul 2 ty))))) size) (X10l (fun i=>some (Nat.mul i size,size)) (rep len zero) parts)
theorem X2v (ty:Nat) (zero:List Value) (size len:Nat) (parts:List (Nat × Value)) (m:Mem):X5 ty zero size len parts m=X2h ty zero size len parts m:=by
 unfold X5 X2h;rw [Xvv];show (Option.rec _ _ (fill (fun i=>some (i * size,size)) _ _):Option _)=_;cases fill (fun i=>some (i * size,size)) (rep len zero) parts with
 | none=>rfl
 | some cs=>cases size <;> rfl
def Xqa (agg:Bool) (size off:Nat) (x:Value):Option Value:=
 match x with | .agg cs=>partOf agg size off cs | _=>none
def X8y (off:Nat) (x:Value):Option Value:=
 match x with | .pointer (some a)=>some (.pointer (some ⟨a.block,a.off + off,a.spot⟩)) | _=>none
def Xx:=@X8y
theorem Xg1 (off:Nat) (x:Value):Xx off x=X8y off x:=rfl
def X20 (len size:Nat) (x i:Value):Option Value:=
 match x,i with
 | .pointer (some a),.int _ n=>if 0 <= n && n < len then some (.pointer (some ⟨a.block,a.off + n.toNat * size,a.spot⟩)) else none
 | _,_=>none
def X6a (size:Nat) (x i:Value):Option Value:=
 match x,i with
 | .slice (some a) len r,.int _ n=>if 0 <= n && n < len && a.spot=some size then some (.pointer (some ⟨a.block,a.off + n.toNat * size,some (r / 2)⟩)) else none
 | _,_=>none
def X5y (size:Nat) (x i:Value):Option Value:=
 match x,i with
 | .slice (some a) len r,.int _ n=>(match n with
  | .ofNat j=>(match Nat.blt j len && X43 a.spot size with | true=>some (.pointer (some ⟨a.block,a.off + j * size,some (r / 2)⟩)) | false=>none)
  | .negSucc _=>none)
 | _,_=>none
def Xa:=@X5y
theorem X2b (size:Nat) (x i:Value):Xa size x i=X5y size x i:=rfl
theorem Xbx (size:Nat) (x i:Value):Xa size x i=X6a size x i:=by
 rw [X2b];unfold X5y X6a;split
 ·rename_i a len r _ n;cases n with
  | ofNat j =>
   simp only [nblt,X1q];have h0:(0) <= Int.ofNat j:=Int.natCast_nonneg j;by_cases h1:j < len <;> by_cases h2:a.spot=some size <;> simp [h1,h2]
  | negSucc j=>simp
 ·rfl
def Xby (len size:Nat) (agg:Bool) (x i:Value):Option Value:=
 match x,i with
 | .agg cs,.int _ n=>if 0 <= n && n < len then partOf agg size (n.toNat * size) cs else none
 | _,_=>none
def Xaf (x i:Value):Option Value:=
 match x,i with
 | .string s,.int _ n=>if 0 <= n then match s.data.toList[n.toNat]? with | some b=>some (.int .u8 b.toNat) | none=>none else none
 | _,_=>none
def Xe:=@Xaf
theorem Xbe (x i:Value):Xe x i=Xaf x i:=rfl
def Xlv (x:Option Value) (dflt lim:Nat):Option Nat:=
 match x with
 | none=>some dflt
 | some (.int _ n)=>if 0 <= n && n <= lim then some n.toNat else none
 | _=>none
def bound (x:Option Value) (dflt lim:Nat):Option Nat:=
 match x with
 | none=>some dflt
 | some (.int _ n)=>(match n with
  | .ofNat j=>(match Nat.ble j lim with | true=>some j | false=>none)
  | .negSucc _=>none)
 | _=>none
theorem Xlr (x:Option Value) (dflt lim:Nat):bound x dflt lim=Xlv x dflt lim:=by
 unfold bound Xlv;split
 ·rfl
 ·rename_i _ n;cases n with
  | ofNat j =>
   simp only [nble]
   grind
  | negSucc j=>simp
 ·rfl
def Xb3 (x:Value) (lo hi:Option Value):Option Value:=
 match x with
 | .string s=>match bound hi s.size s.size with
  | some h=>match bound lo 0 h with
   | some l=>some (.string ⟨((s.data.toList.take h).drop l).toArray⟩)
   | none=>none
  | none=>none
 | _=>none
def Xw:=@Xb3
theorem X4y (x:Value) (lo hi:Option Value):Xw x lo hi=Xb3 x lo hi:=rfl
def X7a (size:Nat) (x:Value) (lo hi:Option Value):Option Value:=
 match x with
 | .slice (some a) n r=>match bound hi n n with
  | some h=>match bound lo 0 h with
   | some l=>if a.spot=some size then some (.slice (some ⟨a.block,a.off + l * size,a.spot⟩) (h - l) (if h=n then r else r / 2 * 2)) else none
   | none=>none
  | none=>none
 | .slice none _ _=>match bound hi 0 0 with
  | some h=>match bound lo 0 h with
   | some _=>some (.slice none 0 0)
   | none=>none
  | none=>none
 | _=>none
def Xcm (size:Nat) (x:Value) (lo:Option Value) (hi mx:Value):Option Value:=
 match x,hi,mx with
 | .slice (some a) n r,.int _ k,.int _ k'=>if k=k' then match bound (some hi) n n with
  | some h=>match bound lo 0 h with
   | some l=>if a.spot=some size then some (.slice (some ⟨a.block,a.off + l * size,a.spot⟩) (h - l) (r / 2 * 2 + 1)) else none
   | none=>none
  | none=>none
  else none
 | .slice none n r,.int _ k,.int _ k'=>match lo with
  | none=>if n=0/\r=0/\k=0/\k'=0 then some (.slice none 0 0) else none
  | some _=>none
 | _,_,_=>none
def X3v (len size:Nat) (x:Value) (lo hi:Option Value) (m:Mem):Option Value:=
 match x with
 | .pointer (some ⟨b,o,some r⟩)=>match getCells m ⟨b,o,some r⟩ (len * size) with
  | none=>none
  | some _=>match bound hi len len with
   | some h=>match bound lo 0 h with
    | some l=>if Nat.ble 1 size then some (.slice (some ⟨b,o + l * size,some size⟩) (h - l) (if h=len then 2 * r + 1 else 2 * r)) else none
    | none=>none
   | none=>none
 | _=>none
def Xdm (x:Value) (i:Nat):Option Value:=match x with | .tuple vs=>vs[i]? | _=>none
def X3m:=@Xdm
theorem X5k (x:Value) (i:Nat):X3m x i=Xdm x i:=rfl
def veq1 (a b:Value):Bool:=
 match a,b with
 | .bool x,.bool y=>x == y
 | .int k x,.int l y=>decide (k=l) && decide (x=y)
 | .string x,.string y=>decide (x=y)
 | _,_=>false
def veqs:List Value->List Value->Bool
 | [],[]=>true
 | a :: l,b :: r=>veq1 a b && veqs l r
 | _,_=>false
def veq (a b:Value):Bool:=
 match a,b with
 | .agg x,.agg y=>veqs x.toList y.toList
 | a,b=>veq1 a b
def X4w (p:EqPl) (k:Value):List (Value × Value × Nat)->Nat->Option (Option Nat)
 | [],_=>some none
 | (k',_,_) :: r,i=>match aEq p k k' with
  | some true=>some (some i)
  | some false=>X4w p k r (i + 1)
  | none=>none
def eqI (a b:Value):Option Bool:=vInt a fun k x=>vInt b fun k' y=>Bool.rec none (some (ieqR x y)) (kbeq k k')
theorem Xu1 (a b:Value):eqI a b=aEq .int a b:=by
 unfold eqI;rw [Xou];cases a <;> first | rfl | skip
 rename_i k x;show vInt b _=_;rw [Xou];cases b <;> first | rfl | skip
 rename_i k' y;show (Bool.rec none (some (ieqR x y)) (kbeq k k'))=aEq _ _ _;rw [Xl2,Xo5,Xo4];simp only [aEq];by_cases h:k=k' <;> simp [h]
def eqP (p:EqPl) (a b:Value):Option Bool:=EqPl.casesOn (motive_1:=fun _=>Option Bool) p (aEq .bool a b) (eqI a b) (aEq .str a b) (aEq .ptr a b) (aEq .slice a b) (aEq .map a b) (aEq .func a b) (aEq .iface a b) (fun fs=>aEq (.struct fs) a b) (aEq .no a b)
theorem Xz9 (p:EqPl) (a b:Value):eqP p a b=aEq p a b:=by
 cases p <;> first | rfl | exact Xu1 a b
def eqFs (xs ys:List Value) (fs:List (Nat × Nat × Bool × EqPl)):Option Bool:=
 List.rec (motive:=fun _=>Option Bool) (some true) (fun f _ ih=>Prod.rec (motive:=fun _=>Option Bool) (fun off r=>Prod.rec (motive:=fun _=>Option Bool) (fun size r=>Prod.rec (motive:=fun _=>Option Bool) (fun agg p =>
  Option.rec none (fun a=>Option.rec none (fun b=>Option.rec none (fun c=>Bool.rec (some false) ih c) (eqP p a b)) (Bool.rec (nthR ys off) (partOf true size off ⟨ys⟩) agg)) (Bool.rec (nthR xs off) (partOf true size off ⟨xs⟩) agg)) r) r) f) fs
theorem Xpx (agg:Bool) (size off:Nat) (xs:List Value):(Bool.rec (nthR xs off) (partOf true size off ⟨xs⟩) agg:Option Value)=partOf agg size off ⟨xs⟩:=by
 cases agg
 ·show nthR xs off=_;rw [Xgb];simp [partOf]
 ·rfl
theorem Xp7 (xs ys:List Value):∀ fs:List (Nat × Nat × Bool × EqPl),eqFs xs ys fs=aEqs fs ⟨xs⟩ ⟨ys⟩
 | []=>by rfl
 | (off,size,agg,p) :: fs=>by
  show (Option.rec _ (fun a=>Option.rec _ (fun b=>Option.rec none (fun c=>Bool.rec (some false) (eqFs xs ys fs) c) (eqP p a b)) _) _:Option _)=_;rw [Xpx,Xpx,Xp7 xs ys fs];simp only [aEqs];cases partOf agg size off ⟨xs⟩ with
  | none=>rfl
  | some a =>
   cases partOf agg size off ⟨ys⟩ with
   | none=>rfl
   | some b =>
    show (Option.rec _ (fun c=>Bool.rec _ _ c) _:Option _)=_;rw [Xz9];show _=(match aEq p a b with | some true=>aEqs fs _ _ | r=>r)
    cases aEq p a b with
    | none=>rfl
    | some c=>cases c <;> rfl
def Xpb (v:Value) (f:List Value->Option Bool):Option Bool:=v.casesOn (fun _=>none) (fun _ _=>none) (fun _ _=>none) (fun _ _ _=>none) (fun _=>none) (fun _=>none) (fun _ _ _=>none) (fun _=>none) (fun _=>none) (fun _ _ _=>none) (none) (fun _ _=>none) (none) (fun a=>f a.toList) (fun _=>none)
def aEqR (p:EqPl) (a b:Value):Option Bool:=EqPl.casesOn (motive_1:=fun _=>Option Bool) p (aEq .bool a b) (eqI a b) (aEq .str a b) (aEq .ptr a b) (aEq .slice a b) (aEq .map a b) (aEq .func a b) (aEq .iface a b) (fun fs=>Xpb a fun xs=>Xpb b fun ys=>eqFs xs ys fs) (aEq .no a b)
theorem Xvg (p:EqPl) (a b:Value):aEqR p a b=aEq p a b:=by
 cases p <;> first | rfl | exact Xu1 a b | skip
 rename_i fs;show Xpb a (fun xs=>Xpb b fun ys=>eqFs xs ys fs)=_;cases a <;> first | rfl | skip
 rename_i xs;show Xpb b (fun ys=>eqFs _ ys fs)=_;cases b <;> first | rfl | skip
 rename_i ys;show eqFs _ _ fs=_;rw [Xp7];rfl
def Xb1 (p:EqPl) (k:Value) (es:List (Value × Value × Nat)) (i:Nat):Option (Option Nat):=
 List.rec (motive:=fun _=>Nat->Option (Option Nat)) (fun _=>some none) (fun e _ ih i=>Prod.rec (motive:=fun _=>Option (Option Nat)) (fun k' _=>Option.rec none (fun b=>Bool.rec (ih (Nat.succ i)) (some (some i)) b) (aEqR p k k')) e) es i
theorem X34 (p:EqPl) (k:Value):∀ (es:List (Value × Value × Nat)) (i:Nat),Xb1 p k es i=X4w p k es i
 | [],i=>rfl
 | (k',v,n) :: es,i=>by
  show (Option.rec _ (fun b=>Bool.rec (Xb1 p k es (i + 1)) _ b) _:Option _)=_;rw [Xvg,X34 p k es _];simp only [X4w];cases aEq p k k' with
  | none=>rfl
  | some b=>cases b <;> rfl
def Xch (zero:Value) (ok:Bool) (r:Option Value):Value:=
 match ok,r with
 | true,some v=>.tuple #[v,.bool true]
 | true,none=>.tuple #[zero,.bool false]
 | false,some v=>v
 | false,none=>zero
def X5u (p:EqPl) (zero:Value) (ok:Bool) (x k:Value) (m:Mem):Option Value:=
 if veq k k && (match aEq p k k with | some true=>true | _=>false) then
 match x with
 | .map none=>some (Xch zero ok none)
 | .map (some b)=>match m.get b with
  | some (.map es _)=>match Xb1 p k es 0 with
   | some none=>some (Xch zero ok none)
   | some (some i)=>match es[i]? with
    | some e=>some (Xch zero ok (some e.2.1))
    | none=>none
   | none=>none
  | _=>none
 | _=>none
 else none
def X31 (p:EqPl) (x k v:Value) (m:Mem):Option Mem:=
 if veq k k && (match aEq p k k with | some true=>true | _=>false) then
 match x with
 | .map (some b)=>match m.get b with
  | some (.map es clock)=>match Xb1 p k es 0 with
   | some none=>some (m.put b (.map (es ++ [(k,v,clock)]) (clock + 1)))
   | some (some i)=>match es[i]? with
    | some e=>if veq e.1 k then some (m.put b (.map (es.set i (k,v,e.2.2)) clock)) else none
    | none=>none
   | none=>none
  | _=>none
 | _=>none
 else none
def Xir (p:EqPl) (x k:Value) (m:Mem):Option Mem:=
 if veq k k && (match aEq p k k with | some true=>true | _=>false) then
 match x with
 | .map none=>some m
 | .map (some b)=>match m.get b with
  | some (.map es clock)=>match Xb1 p k es 0 with
   | some none=>some (m.put b (.map es clock))
   | some (some i)=>some (m.put b (.map (es.eraseIdx i) clock))
   | none=>none
  | _=>none
 | _=>none
 else none
def Xd0 (p:EqPl) (zero:Value) (x k:Value) (m:Mem):Option (Value × Mem):=
 if veq k k && (match aEq p k k with | some true=>true | _=>false) then
 match x with
 | .map (some b)=>match m.get b with
  | some (.map es clock)=>match Xb1 p k es 0 with
   | some none=>some (.tuple ⟨[zero,.int .i64 clock]⟩,m.put b (.map (es ++ [(k,zero,clock)]) (clock + 1)))
   | some (some i)=>match es[i]? with
    | some e=>if veq e.1 k then some (.tuple ⟨[e.2.1,.int .i64 e.2.2]⟩,m.put b (.map (es.set i (k,e.2.1,e.2.2)) clock)) else none
    | none=>none
   | none=>none
  | _=>none
 | _=>none
 else none
def Xli (n:Int):List (Value × Value × Nat)->Option Nat
 | []=>none
 | e :: r=>match ieq e.2.2 n with | true=>some 0 | false=>(match Xli n r with | some i=>some (i + 1) | none=>none)
def X94 (x s v:Value) (m:Mem):Option Mem:=
 match x,s with
 | .map (some b),.int _ n=>match m.get b with
  | some (.map es clock)=>match Xli n es with
   | some i=>match es[i]? with
    | some e=>some (m.put b (.map (es.set i (e.1,v,e.2.2)) clock))
    | none=>none
   | none=>none
  | _=>none
 | _,_=>none
def X7e (m:Mem):Value × Mem:=(.map (some m.next),m.push (.map [] 0))
def fits (n bytes:Nat):Bool:=Nat.ble (n * bytes) 140737488355328 && Nat.ble n 4611686018427387904
def X3j (ty:Nat) (zero:List Value) (size bytes:Nat) (len cap:Value) (m:Mem):Option (Value × Mem):=
 match len,cap with
 | .int _ l,.int _ c=>if decide (0 <= l) && decide (l <= c) && fits c.toNat bytes && Nat.ble 1 size then
   some (.slice (some ⟨m.next,0,some size⟩) l.toNat (if l=c then 1 else 0),m.push (.cells (rep l.toNat zero) 0 0 false (some (2 * ty)))) else none
 | _,_=>none
def X3w (x:Value) (m:Mem):Option (Value × Mem):=
 match x with
 | .string s=>some (.pointer (some ⟨m.next,0,some 0⟩),m.push (.siter s 0))
 | _=>none
def X45 (x:Value) (m:Mem):Option (Value × Mem):=
 match x with
 | .pointer (some ⟨b,0,_⟩)=>match m.get b with
  | some (.siter s pos)=>if pos < s.size then
    let (c,w):=Utf8.decode s pos
    some (.tuple #[.bool true,.int .i64 pos,.int .i32 c],m.put b (.siter s (pos + w)))
   else some (.tuple #[.bool false],m)
  | _=>none
 | _=>none
def Xdl (x:Value) (m:Mem):Option (Value × Mem):=
 match x with
 | .map none=>some (.pointer (some ⟨m.next,0,some 0⟩),m.push (.miter none 0 none 0))
 | .map (some b)=>match m.get b with
  | some (.map _ clock)=>some (.pointer (some ⟨m.next,0,some 0⟩),m.push (.miter (some b) clock none clock))
  | _=>none
 | _=>none
def Xgn (x:Value) (m:Mem):Option (Value × Mem):=
 match x with
 | .pointer (some ⟨b,0,_⟩)=>match m.get b with
  | some (.miter none _ _ _)=>some (.tuple #[.bool false],m)
  | some (.miter (some mb) since none _)=>(match m.get mb with
   | some (.map [] _)=>some (.tuple #[.bool false],m)
   | some (.map [(k,v,born)] clock)=>if born < since/\since <= clock then some (.tuple #[.bool true,k,v],m.put b (.miter (some mb) since (some born) clock)) else none
   | _=>none)
  | some (.miter (some mb) _ (some s) _)=>(match m.get mb with
   | some (.map [] _)=>some (.tuple #[.bool false],m)
   | some (.map [(_,_,born)] _)=>if born=s then some (.tuple #[.bool false],m) else none
   | _=>none)
  | _=>none
 | _=>none
def Xny (x:Value) (m:Mem):Option Value:=
 match x with
 | .pointer (some ⟨b,0,_⟩)=>match m.get b with
  | some (.miter (some mb) _ (some s) last)=>(match m.get mb with
   | some (.map [(k,v,born)] clock)=>if born=s/\clock=last then some (.tuple #[k,v]) else none
   | _=>none)
  | _=>none
 | _=>none
def aLen (x:Value) (m:Mem):Option Value:=
 match x with
 | .string s=>some (.int .i64 s.size)
 | .slice _ n _=>some (.int .i64 n)
 | .map none=>some (.int .i64 0)
 | .map (some b)=>match m.get b with | some (.map es _)=>some (.int .i64 es.length) | _=>none
 | _=>none
def tyOf (ty:Option Nat) (e:Nat):Option Nat:=match ty with | some t=>bif Nat.beq t e then some t else none | none=>none
def X1n (size n:Nat) (x:Value) (m:Mem):Option (List Value):=
 match x with
 | .slice (some a) _ r=>if a.spot=some size then getCells m ⟨a.block,a.off,some (r / 2)⟩ (n * size) else none
 | .slice none _ _=>if n=0 then some [] else none
 | .string s=>some ((s.data.toList.take n).map fun b=>.int .u8 b.toNat)
 | _=>none
def Xj4 (m:Mem) (a b:Addr):Option Bool:=
 if a.block=b.block then
  match m.get a.block with
  | some (.cells _ ver _ _ _)=>if decide (a.spot=some ver) && decide (b.spot=some ver) && decide (a.off=b.off) then some true else none
  | _=>none
 else none
def binP (m:Mem) (op:BinOp) (c g:Bool) (p:EqPl) (x y:Value):Option Value:=
 match p,op,x,y with
 | .ptr,.eql,.pointer (some a),.pointer (some b)=>match Xj4 m a b with | some r=>some (.bool r) | none=>none
 | .ptr,.neq,.pointer (some a),.pointer (some b)=>match Xj4 m a b with | some r=>some (.bool (!r)) | none=>none
 | _,_,_,_=>bin op c g p x y
def X2p (x:Value):Option Nat:=match x with | .slice _ n _=>some n | .string s=>some s.size | _=>none
def X1o (e size bytes:Nat) (s x:Value) (m:Mem):Option (Value × Mem):=
 match X2p x with
 | none=>none
 | some n=>match X1n size n x m with
  | none=>none
  | some new =>
   if !(new.all one && Nat.ble 1 size) then none else
   match s with
   | .slice none len c=>if n=0 then some (.slice none len c,m) else
     if fits n bytes then some (.slice (some ⟨m.next,0,some size⟩) n 0,m.push (.cells new 0 0 false (some (2 * e)))) else none
   | .slice (some a) len r =>
    match m.get a.block with
    | some (.cells c ver fro ro ty) =>
     if !(a.spot == some size && Nat.beq (r / 2) ver && Nat.ble (a.off + len * size) c.length && fits (len + n) bytes) then none else
      if n=0 then some (s,m) else
      if r % 2=1 then some (.slice (some ⟨m.next,0,some size⟩) (len + n) 0,m.push (.cells ((c.drop a.off).take (len * size) ++ new) 0 0 false (some (2 * e)))) else
      if Nat.ble fro (a.off + len * size) && !ro then
       some (.slice (some a) (len + n) (2 * (ver + 1)),m.put a.block (.cells (c.take (a.off + len * size) ++ new) (ver + 1) fro false (tyOf ty (2 * e))))
      else none
    | _=>none
   | _=>none
def Xf3 (e size bytes:Nat) (s x:Value) (m:Mem):Option (Value × Mem):=
 match X2p x with
 | none=>none
 | some n=>match s with
  | .slice (some a) len r=>(match Nat.beq n 0 || Nat.beq (r % 2) 1 with
   | true=>X1o e size bytes s x m
   | false=>(match X1n size n x m with
    | none=>none
    | some new=>(match X82 new && Nat.ble 1 size with
     | false=>none
     | true=>(match m.get a.block with
      | some (.cells c ver fro ro ty)=>(match X43 a.spot size && (Nat.beq (r / 2) ver && (fits (len + n) bytes && (Nat.ble fro (a.off + len * size) && !ro))) with
       | false=>none
       | true=>(match appR new c (a.off + len * size) with
        | none=>none
        | some c'=>some (.slice (some a) (len + n) (2 * (ver + 1)),m.put a.block (.cells c' (ver + 1) fro false (tyOf ty (2 * e))))))
      | _=>none))))
  | _=>X1o e size bytes s x m
def Xdi (raw:Raw) (rv k:Nat) (new:List Value) (ok:Bool) (ty2:Nat):Option (Nat × Raw):=
 match raw with
 | .plain (.cells c ver fro ro ty)=>(match ok && (Nat.beq rv ver && (Nat.ble fro k && !ro)) with
  | false=>none
  | true=>(match appR new c k with
   | none=>none
   | some c'=>(match Nat.blt 48 k with
    | true=>some (Nat.succ ver,.arr (Xdw c' 0 .nil) (lenA c' 0) (Nat.succ ver) fro false (tyOf ty ty2))
    | false=>some (Nat.succ ver,.plain (.cells c' (Nat.succ ver) fro false (tyOf ty ty2))))))
 | .arr t n ver fro ro ty=>(match ok && (Nat.beq rv ver && (Nat.ble fro k && (!ro && Nat.ble k n))) with
  | false=>none
  | true=>some (Nat.succ ver,.arr (Xdw new k t) (Nat.add k (lenA new 0)) (Nat.succ ver) fro false (tyOf ty ty2)))
 | .sp (.nds N n ver ty)=>(match ok && (Nat.beq rv ver && Nat.ble 0 k) with
  | false=>none
  | true=>(match appR new (ndl N n) k with
   | none=>none
   | some c'=>some (Nat.succ ver,.plain (.cells c' (Nat.succ ver) 0 false (tyOf ty ty2)))))
 | _=>none
def X13 (e size bytes:Nat) (s x:Value) (m:Mem):Option (Value × Mem):=
 match X2p x with
 | none=>none
 | some n=>match s with
  | .slice (some a) len r=>(match Nat.beq n 0 || Nat.beq (r % 2) 1 with
   | true=>X1o e size bytes s x m
   | false=>(match X1n size n x m with
    | none=>none
    | some new=>(match X82 new && Nat.ble 1 size with
     | false=>none
     | true=>(match m.tr.get (Nat.succ a.block) with
      | none=>none
      | some raw=>(match Xdi raw (Nat.div r 2) (a.off + len * size) new (X43 a.spot size && fits (len + n) bytes) (2 * e) with
       | none=>none
       | some (ver',raw')=>some (.slice (some a) (len + n) (2 * ver'),m.putR a.block raw'))))))
  | _=>X1o e size bytes s x m
theorem Xjf (e size bytes:Nat) (s x:Value) (m:Mem):Xf3 e size bytes s x m=X1o e size bytes s x m:=by
 unfold Xf3;simp only [Xbz,X39];split
 ·rename_i h; unfold X1o; rw [h]
 ·rename_i n h;split
  ·rename_i a len r;split
   ·rfl
   ·rename_i hn;have hn0:n ≠ 0:=fun x=>by simp_all
    have hr1:¬ r % 2=1:=fun x=>by simp_all
    unfold X1o;simp only [h];cases hs:X1n size n x m with
    | none=>rfl
    | some new =>
     simp only;cases hb:new.all one && Nat.ble 1 size
     ·simp
     ·simp only [Bool.not_true,Bool.false_eq_true,if_false];split
      ·rename_i c ver fro ro ty hg;simp only [ X1q,Xc8,hn0,hr1,if_false];have e1:(a.spot == some size)=decide (a.spot=some size):=by
        cases ha:a.spot with
        | none=>rfl
        | some y=>grind
       rw [e1];by_cases h1:a.spot=some size <;> by_cases h2:Nat.beq (r / 2) ver=true <;> by_cases h3:fits (len + n) bytes=true <;> by_cases h4:Nat.ble fro (a.off + len * size)=true <;> by_cases h5:ro=true <;> by_cases h6:a.off + len * size <= c.length <;> simp [h1,h2,h3,h4,h5,h6]
      ·rfl
  ·rfl
def Xok (size:Nat) (d x:Value) (m:Mem):Option (Value × Mem):=
 match d,X2p x with
 | .slice (some a) len r,some k =>
  if a.spot=some size then
  match X1n size (min k len) x m with
  | some cs=>if min k len=0 then some (.int .i64 0,m) else match setCells m ⟨a.block,a.off,some (r / 2)⟩ cs with
   | some m'=>some (.int .i64 (min k len:Nat),m')
   | none=>none
  | none=>none
  else none
 | _,_=>none
def Xpj (zero:List Value) (size:Nat) (x:Value) (m:Mem):Option Mem:=
 match x with
 | .slice none _ _=>some m
 | .slice (some a) n r=>if a.spot=some size then (if n=0 then some m else setCells m ⟨a.block,a.off,some (r / 2)⟩ (rep n zero)) else none
 | _=>none
def aMax (x y:Value):Option Value:=match x,y with | .int k a,.int k' b=>if k=k' then some (.int k (if b > a then b else a)) else none | _,_=>none
def aMin (x y:Value):Option Value:=match x,y with | .int k a,.int k' b=>if k=k' then some (.int k (if b < a then b else a)) else none | _,_=>none
def Xa7 (x:Value):Option Value:=
 match x with
 | .slice none _ _=>some (.pointer none)
 | .slice (some a) n r=>if Nat.blt 0 n then some (.pointer (some ⟨a.block,a.off,some (r / 2)⟩)) else none
 | _=>none
def X5w (e:Nat) (x n:Value) (m:Mem):Option (Value × Mem):=
 match x,n with
 | .pointer none,.int .i64 k=>if k=0 then some (.string ⟨#[]⟩,m) else none
 | .pointer (some a),.int .i64 k=>if decide (0 < k) && decide (k <= 4611686018427387904) then
   match m.get a.block with
   | some (.cells c ver fro false (some ty))=>if a.spot=some ver && Nat.beq ty (2 * e) then match getCells m a k.toNat with
    | some cs=>match X1g cs with
     | some l=>some (.string ⟨l.toArray⟩,m.put a.block (.cells c ver (max fro (a.off + k.toNat)) false (some ty)))
     | none=>none
    | none=>none
    else none
   | _=>none
  else none
 | _,_=>none
def u0:Value:=.tuple #[]
def u1:Value:=u0
def u2:Value:=u1
def u3:Value:=u2
def u4:Value:=u3
def u5:Value:=u4
def u6:Value:=u5
def u7:Value:=u6
def u8:Value:=u7
def u9:Value:=u8
def u10:Value:=u9
def u11:Value:=u10
def u12:Value:=u11
def u13:Value:=u12
def u14:Value:=u13
def u15:Value:=u14
def u16:Value:=u15
def u17:Value:=u16
def u18:Value:=u17
def u19:Value:=u18
def u20:Value:=u19
def u21:Value:=u20
def u22:Value:=u21
def u23:Value:=u22
def u24:Value:=u23
def u25:Value:=u24
def u26:Value:=u25
def u27:Value:=u26
def u28:Value:=u27
def u29:Value:=u28
def u30:Value:=u29
def u31:Value:=u30
def u32:Value:=u31
def u33:Value:=u32
def u34:Value:=u33
def u35:Value:=u34
def u36:Value:=u35
def u37:Value:=u36
def u38:Value:=u37
def u39:Value:=u38
def u40:Value:=u39
def u41:Value:=u40
def u42:Value:=u41
def u43:Value:=u42
def u44:Value:=u43
def u45:Value:=u44
def u46:Value:=u45
def u47:Value:=u46
def u48:Value:=u47
def u49:Value:=u48
def u50:Value:=u49
def u51:Value:=u50
def u52:Value:=u51
def u53:Value:=u52
def u54:Value:=u53
def u55:Value:=u54
def u56:Value:=u55
def u57:Value:=u56
def u58:Value:=u57
def u59:Value:=u58
def u60:Value:=u59
def u61:Value:=u60
def u62:Value:=u61
def u63:Value:=u62
def u64:Value:=u63
def u65:Value:=u64
def u66:Value:=u65
def u67:Value:=u66
def u68:Value:=u67
def u69:Value:=u68
def u70:Value:=u69
def u71:Value:=u70
def u72:Value:=u71
def u73:Value:=u72
def u74:Value:=u73
def u75:Value:=u74
def u76:Value:=u75
def u77:Value:=u76
def u78:Value:=u77
def u79:Value:=u78
def u80:Value:=u79
def u81:Value:=u80
def u82:Value:=u81
def u83:Value:=u82
def u84:Value:=u83
def u85:Value:=u84
def u86:Value:=u85
def u87:Value:=u86
def u88:Value:=u87
def u89:Value:=u88
def u90:Value:=u89
def u91:Value:=u90
def u92:Value:=u91
def u93:Value:=u92
def u94:Value:=u93
def u95:Value:=u94
def u96:Value:=u95
def u97:Value:=u96
def u98:Value:=u97
def u99:Value:=u98
def u100:Value:=u99
def u101:Value:=u100
def u102:Value:=u101
def u103:Value:=u102
def u104:Value:=u103
def u105:Value:=u104
def u106:Value:=u105
def u107:Value:=u106
def u108:Value:=u107
def u109:Value:=u108
def u110:Value:=u109
def u111:Value:=u110
def u112:Value:=u111
def u113:Value:=u112
def u114:Value:=u113
def u115:Value:=u114
def u116:Value:=u115
def u117:Value:=u116
def u118:Value:=u117
def u119:Value:=u118
def u120:Value:=u119
def u121:Value:=u120
def u122:Value:=u121
def u123:Value:=u122
def u124:Value:=u123
def u125:Value:=u124
def u126:Value:=u125
def u127:Value:=u126
def u128:Value:=u127
def u129:Value:=u128
def u130:Value:=u129
def u131:Value:=u130
def u132:Value:=u131
def u133:Value:=u132
def u134:Value:=u133
def u135:Value:=u134
def u136:Value:=u135
def u137:Value:=u136
def u138:Value:=u137
def u139:Value:=u138
def u140:Value:=u139
def u141:Value:=u140
def u142:Value:=u141
def u143:Value:=u142
def u144:Value:=u143
def u145:Value:=u144
def u146:Value:=u145
def u147:Value:=u146
def u148:Value:=u147
def u149:Value:=u148
def u150:Value:=u149
def u151:Value:=u150
def u152:Value:=u151
def u153:Value:=u152
def u154:Value:=u153
def u155:Value:=u154
def u156:Value:=u155
def u157:Value:=u156
def u158:Value:=u157
def u159:Value:=u158
def u160:Value:=u159
def u161:Value:=u160
def u162:Value:=u161
def u163:Value:=u162
def u164:Value:=u163
def u165:Value:=u164
def u166:Value:=u165
def u167:Value:=u166
def u168:Value:=u167
def u169:Value:=u168
def u170:Value:=u169
def u171:Value:=u170
def u172:Value:=u171
def u173:Value:=u172
def u174:Value:=u173
def u175:Value:=u174
def u176:Value:=u175
def u177:Value:=u176
def u178:Value:=u177
def u179:Value:=u178
def u180:Value:=u179
def u181:Value:=u180
def u182:Value:=u181
def u183:Value:=u182
def u184:Value:=u183
def u185:Value:=u184
def u186:Value:=u185
def u187:Value:=u186
def u188:Value:=u187
def u189:Value:=u188
def u190:Value:=u189
def u191:Value:=u190
def u192:Value:=u191
def u193:Value:=u192
def u194:Value:=u193
def u195:Value:=u194
def u196:Value:=u195
def u197:Value:=u196
def u198:Value:=u197
def u199:Value:=u198
def u200:Value:=u199
def u201:Value:=u200
def u202:Value:=u201
def u203:Value:=u202
def u204:Value:=u203
def u205:Value:=u204
def u206:Value:=u205
def u207:Value:=u206
def u208:Value:=u207
def u209:Value:=u208
def u210:Value:=u209
def u211:Value:=u210
def u212:Value:=u211
def u213:Value:=u212
def u214:Value:=u213
def u215:Value:=u214
def u216:Value:=u215
def u217:Value:=u216
def u218:Value:=u217
def u219:Value:=u218
def u220:Value:=u219
def u221:Value:=u220
def u222:Value:=u221
def u223:Value:=u222
def u224:Value:=u223
def u225:Value:=u224
def u226:Value:=u225
def u227:Value:=u226
def u228:Value:=u227
def u229:Value:=u228
def u230:Value:=u229
def u231:Value:=u230
def u232:Value:=u231
def u233:Value:=u232
def u234:Value:=u233
def u235:Value:=u234
def u236:Value:=u235
def u237:Value:=u236
def u238:Value:=u237
def u239:Value:=u238
def u240:Value:=u239
def u241:Value:=u240
def u242:Value:=u241
def u243:Value:=u242
def u244:Value:=u243
def u245:Value:=u244
def u246:Value:=u245
def u247:Value:=u246
def u248:Value:=u247
def u249:Value:=u248
def u250:Value:=u249
def u251:Value:=u250
def u252:Value:=u251
def u253:Value:=u252
def u254:Value:=u253
def u255:Value:=u254
def u256:Value:=u255
def u257:Value:=u256
def u258:Value:=u257
def u259:Value:=u258
def u260:Value:=u259
def u261:Value:=u260
def u262:Value:=u261
def u263:Value:=u262
def u264:Value:=u263
def u265:Value:=u264
def u266:Value:=u265
def u267:Value:=u266
def u268:Value:=u267
def u269:Value:=u268
def u270:Value:=u269
def u271:Value:=u270
def u272:Value:=u271
def u273:Value:=u272
def u274:Value:=u273
def u275:Value:=u274
def u276:Value:=u275
def u277:Value:=u276
def u278:Value:=u277
def u279:Value:=u278
def u280:Value:=u279
def u281:Value:=u280
def u282:Value:=u281
def u283:Value:=u282
def u284:Value:=u283
def u285:Value:=u284
def u286:Value:=u285
def u287:Value:=u286
def u288:Value:=u287
def u289:Value:=u288
def u290:Value:=u289
def u291:Value:=u290
def u292:Value:=u291
def u293:Value:=u292
def u294:Value:=u293
def u295:Value:=u294
def u296:Value:=u295
def u297:Value:=u296
def u298:Value:=u297
def u299:Value:=u298
def u300:Value:=u299
def noB {α:Type}:Option α:=none
def pk (c a b:Value) (m:Mem):Option (Value × Mem):=match c with | .bool true=>some (a,m) | .bool false=>some (b,m) | _=>none
def brb {α:Type} (v:Value) (a b:Option α):Option α:=v.casesOn (fun c=>Bool.rec b a c) (fun _ _=>noB) (fun _ _=>noB) (fun _ _ _=>noB) (fun _=>noB) (fun _=>noB) (fun _ _ _=>noB) (fun _=>noB) (fun _=>noB) (fun _ _ _=>noB) (noB) (fun _ _=>noB) (noB) (fun _=>noB) (fun _=>noB)
theorem Xun {α:Type} (v:Value) (a b:Option α):brb v a b=match v with | .bool true=>a | .bool false=>b | _=>noB:=by
 cases v <;> first | rfl | (rename_i c; cases c <;> rfl)
def brs {α:Type} (v:Value) (a:Option α):Option α:=match v with | .tuple ⟨[]⟩=>a | _=>noB
def gsv (v:Value) (want:Bool):Option Bool:=match v with | .bool b=>some (b == want) | .tuple ⟨[]⟩=>some false | _=>none
def brg {α:Type} (x:Option Bool) (a s:Option α):Option α:=match x with | none=>noB | some true=>a | some false=>s
def brt {α:Type} (v:Value) (a b s:Option α):Option α:=match v with | .bool true=>a | .bool false=>b | .tuple ⟨[]⟩=>s | _=>noB
def pkB {α:Type} (v a b:Value) (m:Mem) (k:Value->Mem->Option α):Option α:=v.casesOn (fun c=>Bool.rec (k b m) (k a m) c) (fun _ _=>noB) (fun _ _=>noB) (fun _ _ _=>noB) (fun _=>noB) (fun _=>noB) (fun _ _ _=>noB) (fun _=>noB) (fun _=>noB) (fun _ _ _=>noB) (noB) (fun _ _=>noB) (noB) (fun _=>noB) (fun _=>noB)
theorem Xy3 {α:Type} (v a b:Value) (m:Mem) (k:Value->Mem->Option α):pkB v a b m k=match v with | .bool true=>k a m | .bool false=>k b m | _=>noB:=by
 cases v <;> first | rfl | (rename_i c; cases c <;> rfl)
def ckB {α:Type} (c:Bool) (x:Option α):Option α:=match c with | true=>x | false=>noB
def brc (x:Option Bool) (a s:Bool):Bool:=match x with | none=>false | some true=>a | some false=>s
def apS (e size bytes:Nat) (s x:Value) (m:Mem):Option (Value × Mem):=match x with | .string _=>none | _=>X13 e size bytes s x m
def cpS (size:Nat) (s x:Value) (m:Mem):Option (Value × Mem):=match x with | .string _=>none | _=>Xok size s x m
end Go.Ab
namespace Go.Ab
theorem X4s {α:Type} (a b:Nat) (x y:α):(bif Nat.beq a b then x else y)=if a=b then x else y:=by
 simp
theorem Tr.get_put {α:Type}:∀ (f:Nat) (t:Tr α) (p q:Nat) (x:α),1 <= p->1 <= q->p <= f->(Tr.put f t p x).get q=if p=q then some x else t.get q
 | 0,_,p,_,_,hp,_,hf=>by omega
 | f + 1,.nil,p,q,x,hp,hq,hf=>by
  have ih:=fun h1 h2 h3=>Tr.get_put f (.nil) (p / 2) (q / 2) x h1 h2 h3;simp only [Tr.put_nil,X4s,Tr.get_nil] at ih ⊢;by_cases h1:p=1
  ·rw [if_pos h1];simp only [Tr.get_node,Tr.get_nil,X4s]
   grind
  ·rw [if_neg h1];by_cases hm:p % 2=0
   ·rw [if_pos hm];simp only [Tr.get_node,Tr.get_nil,X4s]
    grind
   ·rw [if_neg hm];simp only [Tr.get_node,Tr.get_nil,X4s]
    grind
 | f + 1,.node v l r,p,q,x,hp,hq,hf=>by
  have ihl:=fun h1 h2 h3=>Tr.get_put f l (p / 2) (q / 2) x h1 h2 h3;have ihr:=fun h1 h2 h3=>Tr.get_put f r (p / 2) (q / 2) x h1 h2 h3;simp only [Tr.put_node,X4s];by_cases h1:p=1
  ·rw [if_pos h1];simp only [Tr.get_node,X4s]
   grind
  ·rw [if_neg h1];by_cases hm:p % 2=0
   ·rw [if_pos hm];simp only [Tr.get_node,X4s]
    grind
   ·rw [if_neg hm];simp only [Tr.get_node,X4s]
    grind
theorem Mem.get_putR (m:Mem) (b c:Nat) (o:Raw):(m.putR b o).get c=if b=c then some o.norm else m.get c:=by
 rw [Mem.putR_def,Mem.get_def,Mem.get_def];show (Tr.get (Tr.put (b + 1) _ _ o) _).map _=_;rw [Tr.get_put _ _ _ _ _ (by omega) (by omega) (Nat.le_refl _)]
 grind
theorem Mem.get_put (m:Mem) (b c:Nat) (o:AObj):(m.put b o).get c=if b=c then some o else m.get c:=Mem.get_putR m b c (.plain o)
theorem Mem.get_push (m:Mem) (c:Nat) (o:AObj):(m.push o).get c=if m.next=c then some o else m.get c:=by
 rw [Mem.get_def,Mem.get_def];unfold Mem.push;show (Tr.get (Tr.put (m.next + 1) _ (m.next + 1) _) _).map _=_;rw [Tr.get_put _ _ _ _ _ (by omega) (by omega) (Nat.le_refl _)];by_cases h:m.next=c
 ·simp [h]; rfl
 grind
structure MEq (m m':Mem):Prop where
 next:m'.next=m.next
 low:m'.low=m.low
 get:∀ b,m'.get b=m.get b
theorem MEq.refl (m:Mem):MEq m m:=⟨rfl,rfl,fun _=>rfl⟩
theorem X7j:∀ (vs:List Value) (o:Nat) (t:Tr Value) (i:Nat),Xn4 (Xdw vs o t) i=if o <= i/\i < o + vs.length then (vs[i - o]?).getD (.tuple #[]) else Xn4 t i
 | [],o,t,i=>by
  show Xn4 t i=_
  grind
 | v :: vs,o,t,i=>by
  show Xn4 (Xdw vs (o + 1) (Tr.put (o + 1) t (o + 1) v)) i=_;rw [X7j vs _];by_cases h1:o + 1 <= i/\i < o + 1 + vs.length
  ·grind
  ·rw [if_neg h1,Xf4,Xf4,Tr.get_put _ _ _ _ _ (by omega) (by omega) (Nat.le_refl _)]
   grind
theorem Xmx (vs:List Value) (o n:Nat) (t:Tr Value) (h:o + vs.length <= n):X8t (Xdw vs o t) n=(X8t t n).take o ++ vs ++ (X8t t n).drop (o + vs.length):=by
 apply List.ext_getElem?;intro i;rw [X58,X7j,List.append_assoc,List.getElem?_append,List.length_take,X33,List.getElem?_take,X58];have e:min o n=o:=by omega
 rw [e];by_cases h1:i < o
 ·have:i < n:=by omega
  have h2:¬ (o <= i/\i < o + vs.length):=by omega
  simp [h1,h2]
 ·rw [if_neg h1,List.getElem?_append];by_cases h2:i - o < vs.length
  ·grind
  ·rw [if_neg h2,List.getElem?_drop,X58]
   grind
theorem Xit {r r':Raw} {off:Nat} {spot:Option Nat} {vs:List Value} (h:X9m r off spot vs=some r'):∃ c ver fro ty,r.norm=.cells c ver fro false ty /\
  (spot=some ver/\fro <= off/\off + vs.length <= c.length/\vs.all one=true)/\r'.norm=.cells (c.take off ++ vs ++ c.drop (off + vs.length)) ver fro false ty:=by
 cases r with
 | plain o =>
  cases o with
  | cells c ver fro ro ty =>
   cases ro with
   | true=>cases h
   | false =>
    have h:(Bool.rec none (Bool.rec none (Bool.rec none (Option.rec none (fun c'=>some (.plain (.cells c' ver fro false ty))) (setR vs c off)) (X82 vs)) (Nat.ble fro off)) (X43 spot ver))=some r':=h;rw [X1q,nble,X39,Xdn,Xd1] at h;by_cases h1:spot=some ver <;> by_cases h2:fro <= off <;> by_cases h3:vs.all one=true <;> by_cases h4:off + vs.length <= c.length <;> simp only [h1,h2,h3,h4,decide_true,if_true, Option.some.injEq] at h <;> try (cases h; done)
    subst h;exact ⟨c,ver,fro,ty,rfl,⟨h1,h2,h4,h3⟩,rfl⟩
  | _=>cases h
 | arr t n ver fro ro ty =>
  cases ro with
  | true=>cases h
  | false =>
   have h:(Bool.rec none (Bool.rec none (Bool.rec none (Bool.rec none (some (.arr (Xdw vs off t) n ver fro false ty)) (Nat.ble (off + lenA vs 0) n)) (X82 vs)) (Nat.ble fro off)) (X43 spot ver))=some r':=h;rw [X1q,nble,X39,Xcy,nble,Nat.add_zero] at h;by_cases h1:spot=some ver <;> by_cases h2:fro <= off <;> by_cases h3:vs.all one=true <;> by_cases h4:off + vs.length <= n <;> simp only [h1,h2,h3,h4,decide_true, Option.some.injEq] at h <;> try (cases h; done)
   subst h;refine ⟨X8t t n,ver,fro,ty,rfl,⟨h1,h2,by rw [X33]; exact h4,h3⟩,?_⟩;show AObj.cells _ ver fro _ ty=_;rw [Xmx vs off n t h4]
 | sp s =>
  have h:(Xl9 (some _) _)=some r':=h;have hn:Raw.norm (.sp s)=s.norm:=rfl;rw [hn];generalize s.norm=o at h ⊢;cases o with
  | cells c ver fro ro ty =>
   cases ro with
   | true=>cases h
   | false =>
    have h:(Bool.rec none (Bool.rec none (Bool.rec none (Option.rec none (fun c'=>some (.plain (.cells c' ver fro false ty))) (setR vs c off)) (X82 vs)) (Nat.ble fro off)) (X43 spot ver))=some r':=h;rw [X1q,nble,X39,Xdn,Xd1] at h;by_cases h1:spot=some ver <;> by_cases h2:fro <= off <;> by_cases h3:vs.all one=true <;> by_cases h4:off + vs.length <= c.length <;> simp only [h1,h2,h3,h4,decide_true,if_true, Option.some.injEq] at h <;> try (cases h; done)
    subst h;exact ⟨c,ver,fro,ty,rfl,⟨h1,h2,h4,h3⟩,rfl⟩
  | _=>cases h
theorem Xbl {m m':Mem} {a:Addr} {vs:List Value} (h:setCells m a vs=some m'):∃ r r',m.tr.get (a.block + 1)=some r/\X9m r a.off a.spot vs=some r'/\m'=m.putR a.block r':=by
 have h:(Option.rec none (fun r=>Option.rec none (fun r'=>some (m.putR a.block r')) (X9m r a.off a.spot vs)) (m.tr.get (a.block + 1)))=some m':=h;cases hr:m.tr.get (a.block + 1) with
 | none=>simp_all
 | some r =>
  rw [hr] at h;have h:(Option.rec none (fun r'=>some (m.putR a.block r')) (X9m r a.off a.spot vs))=some m':=h;cases hs:X9m r a.off a.spot vs with
  | none=>simp_all
  | some r'=>simp_all
@[simp] theorem Mem.next_putR (m:Mem) (b:Nat) (o:Raw):(m.putR b o).next=m.next:=by rw [Mem.putR_def]
@[simp] theorem Mem.low_putR (m:Mem) (b:Nat) (o:Raw):(m.putR b o).low=min m.low b:=by rw [Mem.putR_def]
@[simp] theorem Mem.next_put (m:Mem) (b:Nat) (o:AObj):(m.put b o).next=m.next:=by rw [Mem.put_def]
theorem X67 {m m':Mem} {a:Addr} {vs:List Value} (h:setCells m a vs=some m'):∃ c ver fro ty,m.get a.block=some (.cells c ver fro false ty) /\
  (a.spot=some ver/\fro <= a.off/\a.off + vs.length <= c.length/\vs.all one=true)/\MEq (m.put a.block (.cells (c.take a.off ++ vs ++ c.drop (a.off + vs.length)) ver fro false ty)) m':=by
 obtain ⟨r,r',h1,h2,rfl⟩:=Xbl h;obtain ⟨c,ver,fro,ty,h3,h4,h5⟩:=Xit h2;refine ⟨c,ver,fro,ty,by rw [Mem.get_def,h1,Option.map_some,h3],h4,⟨by simp,by simp [Mem.put],fun b=>?_⟩⟩;rw [Mem.get_putR,Mem.put,Mem.get_putR,h5];rfl
theorem Xbj {m m':Mem} {a:Addr} {vs:List Value} (h:setCells m a vs=some m'):∃ m2,X53 m a vs=some m2/\MEq m2 m':=by
 obtain ⟨c,ver,fro,ty,h1,⟨h2,h3,h4,h5⟩,h6⟩:=X67 h;refine ⟨_,?_,h6⟩;unfold X53;rw [h1];simp only;rw [if_pos (by grind)]
theorem Xqn (c:List Value):X8t (Xdw c 0 .nil) c.length=c:=by
 apply List.ext_getElem?;intro i;rw [X58,X7j]
 grind
theorem Xpp (new:List Value) (k n:Nat) (t:Tr Value) (h:k <= n):X8t (Xdw new k t) (k + new.length)=(X8t t n).take k ++ new:=by
 apply List.ext_getElem?;intro i;rw [X58,X7j,List.getElem?_append,List.length_take,X33,List.getElem?_take,X58]
 grind
theorem Xio {raw raw':Raw} {rv k ver' ty2:Nat} {new:List Value} {ok:Bool} (h:Xdi raw rv k new ok ty2=some (ver',raw')):∃ c ver fro ty c',raw.norm=.cells c ver fro false ty /\
  (ok && (Nat.beq rv ver && (Nat.ble fro k && !false)))=true/\appR new c k=some c'/\ver'=ver + 1/\raw'.norm=.cells c' (ver + 1) fro false (tyOf ty ty2):=by
 unfold Xdi at h;split at h
 ·rename_i c ver fro ro ty;split at h
  ·cases h
  ·rename_i hc;have hro:ro=false:=by
    simp only [Bool.and_eq_true,Bool.not_eq_true'] at hc;exact hc.2.2.2
   subst hro;split at h
   ·cases h
   ·rename_i c' hc';split at h
    ·simp only [Option.some.injEq,Prod.mk.injEq] at h;obtain ⟨rfl,rfl⟩:=h;refine ⟨c,ver,fro,ty,c',rfl,hc,hc',rfl,?_⟩;show AObj.cells _ (ver + 1) fro _ _=_;rw [Xcy,Nat.add_zero,Xqn]
    ·simp only [Option.some.injEq,Prod.mk.injEq] at h;obtain ⟨rfl,rfl⟩:=h;exact ⟨c,ver,fro,ty,c',rfl,hc,hc',rfl,rfl⟩
 ·rename_i t n ver fro ro ty;split at h
  ·cases h
  ·rename_i hc;simp only [Bool.and_eq_true,Bool.not_eq_true'] at hc;obtain ⟨hc1,hc2,hc3,hc4,hc5⟩:=hc;subst hc4;simp only [Option.some.injEq,Prod.mk.injEq] at h;obtain ⟨rfl,rfl⟩:=h;have hk:k <= n:=Nat.le_of_ble_eq_true hc5;refine ⟨X8t t n,ver,fro,ty,(X8t t n).take k ++ new,rfl,by grind,?_,rfl,?_⟩
   ·rw [Xbz,Xc8,X33,if_pos hk]
   ·show AObj.cells (X8t _ (k + lenA new 0)) (ver + 1) fro _ _=_;rw [Xcy,Nat.add_zero,Xpp new k n t hk]
 ·rename_i N n ver ty;split at h
  ·cases h
  ·rename_i hc;split at h
   ·cases h
   ·rename_i c' hc';simp only [Option.some.injEq,Prod.mk.injEq] at h;obtain ⟨rfl,rfl⟩:=h;refine ⟨ndl N n,ver,0,ty,c',rfl,?_,hc',rfl,rfl⟩
    grind
 grind
theorem X8v {e size bytes:Nat} {s x v:Value} {m m':Mem} (h:X13 e size bytes s x m=some (v,m')):∃ m2,X1o e size bytes s x m=some (v,m2)/\MEq m2 m':=by
 rw [<- Xjf];unfold X13 at h;unfold Xf3;split at h
 ·cases h
 ·rename_i n hn;split at h
  ·rename_i a len r
   try simp only
   split at h
   ·rename_i hb;exact ⟨m',h,.refl _⟩
   ·rename_i hb
    try rw [hb]
    try simp only
    split at h
    ·cases h
    ·rename_i new hs
     try rw [hs]
     try simp only
     split at h
     ·cases h
     ·rename_i ho
      try rw [ho]
      try simp only
      split at h
      ·cases h
      ·rename_i raw hraw;split at h
       ·cases h
       ·rename_i ver' raw' hap;simp at h;obtain ⟨rfl,rfl⟩:=h;obtain ⟨c,ver,fro,ty,c',k1,k2,k3,rfl,k5⟩:=Xio hap;have hg:m.get a.block=some (.cells c ver fro false ty):=by
         rw [Mem.get_def];show (m.tr.get (a.block + 1)).map Raw.norm=_;have:m.tr.get (a.block + 1)=some raw:=hraw;rw [this,Option.map_some,k1]
        rw [hg];simp only;have hcc:(X43 a.spot size && (Nat.beq (r / 2) ver && (fits (len + n) bytes && (Nat.ble fro (a.off + len * size) && !false))))=true:=by
         simp only [Bool.and_eq_true] at k2 ⊢;exact ⟨k2.1.1,k2.2.1,k2.1.2,k2.2.2⟩
        rw [hcc];simp only [k3];refine ⟨_,rfl,⟨by simp,by simp [Mem.put],fun b=>?_⟩⟩;rw [Mem.get_putR,Mem.put,Mem.get_putR,k5];rfl
  ·exact ⟨m',h,.refl _⟩
@[simp] theorem Mem.next_push (m:Mem) (o:AObj):(m.push o).next=m.next + 1:=rfl
@[simp] theorem Mem.low_put (m:Mem) (b:Nat) (o:AObj):(m.put b o).low=min m.low b:=by rw [Mem.put_def]
@[simp] theorem Mem.low_push (m:Mem) (o:AObj):(m.push o).low=m.low:=rfl
structure Pl where
 blk:Nat
 lo:Nat
 cb:Nat
 size:Nat
 ver:Nat
 ro:Bool
abbrev Pmap:=Nat->Option Pl
mutual
inductive VRel (φ:Pmap):Value->Value->Prop where
 | bool (b:Bool):VRel φ (.bool b) (.bool b)
 | int (k:IntKind) (n:Int):VRel φ (.int k n) (.int k n)
 | float (k:FloatKind) (b:Nat):VRel φ (.float k b) (.float k b)
 | string (s:ByteArray):VRel φ (.string s) (.string s)
 | nilPtr:VRel φ (.pointer none) (.pointer none)
 | ptr (b o r B O:Nat) (pl:Pl) (h:φ b=some pl) (hr:r <= pl.ver) (hp:r=pl.ver->B=pl.blk/\pl.lo <= o/\O=pl.cb + (o - pl.lo)) :
   VRel φ (.pointer (some ⟨b,o,some r⟩)) (.pointer (some ⟨B,O,none⟩))
 | nilSlice:VRel φ (.slice none 0 0) (.slice none 0 0)
 | slice (b o es n t B O cap:Nat) (pl:Pl) (h:φ b=some pl) (hes:1 <= es) (hn:n <= cap) (hr:t / 2 <= pl.ver)
   (hp:t / 2=pl.ver->(cap=0\/(B=pl.blk/\pl.lo <= o/\O=pl.cb + (o - pl.lo)/\O + cap * es <= pl.size))/\(t % 2=1->cap=n)) :
   VRel φ (.slice (some ⟨b,o,some es⟩) n t) (.slice (some ⟨B,O,none⟩) n cap)
 | nilMap:VRel φ (.map none) (.map none)
 | map (b R:Nat) (pl:Pl) (h:φ b=some pl) (hp:pl.ver=0->R=pl.blk):VRel φ (.map (some b)) (.map (some R))
 | func (f:Fn) (a c a' c':Array Value) (ha:VRels φ a.toList a'.toList) (hc:VRels φ c.toList c'.toList):VRel φ (.func f a c) (.func f a' c')
 | nilFunc:VRel φ .nilFunc .nilFunc
 | iface (t:TypeId) (v v':Value) (h:VRel φ v v'):VRel φ (.iface t v) (.iface t v')
 | nilIface:VRel φ .nilIface .nilIface
 | agg (a a':Array Value) (h:VRels φ a.toList a'.toList):VRel φ (.agg a) (.agg a')
 | tuple (a a':Array Value) (h:VRels φ a.toList a'.toList):VRel φ (.tuple a) (.tuple a')
inductive VRels (φ:Pmap):List Value->List Value->Prop where
 | nil:VRels φ [] []
 | cons (v v':Value) (l l':List Value) (h:VRel φ v v') (hl:VRels φ l l'):VRels φ (v :: l) (v' :: l')
end
def Pmap.le (φ φ':Pmap):Prop:=∀ b pl,φ b=some pl->∃ pl',φ' b=some pl'/\(pl'=pl\/pl.ver < pl'.ver)
theorem Pmap.le.refl (φ:Pmap):φ.le φ:=fun _ pl h=>⟨pl,h,.inl rfl⟩
theorem Pmap.le.trans {a b c:Pmap} (h:a.le b) (k:b.le c):a.le c:=fun x pl hx=>by
 obtain ⟨p1,h1,e1⟩:=h x pl hx;obtain ⟨p2,h2,e2⟩:=k x p1 h1
 grind
mutual
theorem VRel.mono {φ φ':Pmap} (h:φ.le φ'):∀ {a c:Value},VRel φ a c->VRel φ' a c
 | _,_,.bool b=>.bool b
 | _,_,.int k n=>.int k n
 | _,_,.float k b=>.float k b
 | _,_,.string s=>.string s
 | _,_,.nilPtr=>.nilPtr
 | _,_,.ptr b o r B O pl hb hr hp=>by
  obtain ⟨pl',h',e⟩:=h b pl hb;rcases e with rfl | e
  ·exact .ptr b o r B O _ h' hr hp
  ·exact .ptr b o r B O pl' h' (by omega) (fun x=>by omega)
 | _,_,.nilSlice=>.nilSlice
 | _,_,.slice b o es n t B O cap pl hb hes hn hr hp=>by
  obtain ⟨pl',h',e⟩:=h b pl hb;rcases e with rfl | e
  ·exact .slice b o es n t B O cap _ h' hes hn hr hp
  ·exact .slice b o es n t B O cap pl' h' hes hn (by omega) (fun x=>by omega)
 | _,_,.nilMap=>.nilMap
 | _,_,.map b R pl hb hp=>by
  obtain ⟨pl',h',e⟩:=h b pl hb;rcases e with rfl | e
  ·exact .map b R _ h' hp
  ·exact .map b R pl' h' (fun x=>by omega)
 | _,_,.func f a c a' c' ha hc=>.func f a c a' c' (VRels.mono h ha) (VRels.mono h hc)
 | _,_,.nilFunc=>.nilFunc
 | _,_,.iface t v v' hv=>.iface t v v' (VRel.mono h hv)
 | _,_,.nilIface=>.nilIface
 | _,_,.agg a a' ha=>.agg a a' (VRels.mono h ha)
 | _,_,.tuple a a' ha=>.tuple a a' (VRels.mono h ha)
theorem VRels.mono {φ φ':Pmap} (h:φ.le φ'):∀ {a c:List Value},VRels φ a c->VRels φ' a c
 | _,_,.nil=>.nil
 | _,_,.cons v v' l l' hv hl=>.cons v v' l l' (VRel.mono h hv) (VRels.mono h hl)
end
mutual
theorem VRel.back {φ φ':Pmap} (h:∀ b pl,φ b=some pl->φ' b=some pl):∀ {a c0 c:Value},VRel φ a c0->VRel φ' a c->VRel φ a c
 | _,_,_,.bool b,.bool _=>.bool b
 | _,_,_,.int k n,.int _ _=>.int k n
 | _,_,_,.float k b,.float _ _=>.float k b
 | _,_,_,.string s,.string _=>.string s
 | _,_,_,.nilPtr,.nilPtr=>.nilPtr
 | _,_,_,.ptr b o r _ _ pl hb _ _,.ptr _ _ _ B O pl' hb' hr hp=>by
  have e:=h b pl hb;rw [hb'] at e;cases e;exact .ptr b o r B O _ hb hr hp
 | _,_,_,.nilSlice,.nilSlice=>.nilSlice
 | _,_,_,.slice b o es n t _ _ _ pl hb _ _ _ _,.slice _ _ _ _ _ B O cap pl' hb' hes hn hr hp=>by
  have e:=h b pl hb;rw [hb'] at e;cases e;exact .slice b o es n t B O cap _ hb hes hn hr hp
 | _,_,_,.nilMap,.nilMap=>.nilMap
 | _,_,_,.map b _ pl hb _,.map _ R pl' hb' hp=>by
  have e:=h b pl hb;rw [hb'] at e;cases e;exact .map b R _ hb hp
 | _,_,_,.func f a c _ _ ha hc,.func _ _ _ a' c' ha' hc'=>.func f a c a' c' (VRels.back h ha ha') (VRels.back h hc hc')
 | _,_,_,.nilFunc,.nilFunc=>.nilFunc
 | _,_,_,.iface t v _ hv,.iface _ _ v' hv'=>.iface t v v' (VRel.back h hv hv')
 | _,_,_,.nilIface,.nilIface=>.nilIface
 | _,_,_,.agg a _ ha,.agg _ a' ha'=>.agg a a' (VRels.back h ha ha')
 | _,_,_,.tuple a _ ha,.tuple _ a' ha'=>.tuple a a' (VRels.back h ha ha')
theorem VRels.back {φ φ':Pmap} (h:∀ b pl,φ b=some pl->φ' b=some pl):∀ {a c0 c:List Value},VRels φ a c0->VRels φ' a c->VRels φ a c
 | _,_,_,.nil,.nil=>.nil
 | _,_,_,.cons v _ l _ hv hl,.cons _ v' _ l' hv' hl'=>.cons v v' l l' (VRel.back h hv hv') (VRels.back h hl hl')
end
end Go.Ab
namespace Go.Ab
theorem VRels.length {φ:Pmap}:∀ {a c:List Value},VRels φ a c->a.length=c.length
 | _,_,.nil=>rfl
 | _,_,.cons _ _ _ _ _ hl=>by simp [VRels.length hl]
theorem VRels.get {φ:Pmap}:∀ {a c:List Value},VRels φ a c->∀ {i:Nat} {v:Value},a[i]?=some v->∃ cv,c[i]?=some cv/\VRel φ v cv
 | _,_,.nil,i,v,h=>by simp at h
 | _,_,.cons v v' l l' hv hl,0,u,h=>by grind
 | _,_,.cons v v' l l' hv hl,i + 1,u,h=>by simpa using VRels.get hl (by grind)
theorem VRels.append {φ:Pmap}:∀ {a c b d:List Value},VRels φ a c->VRels φ b d->VRels φ (a ++ b) (c ++ d)
 | _,_,_,_,.nil,h=>h
 | _,_,_,_,.cons v v' l l' hv hl,h=>.cons v v' _ _ hv (VRels.append hl h)
theorem VRels.take {φ:Pmap}:∀ (n:Nat) {a c:List Value},VRels φ a c->VRels φ (a.take n) (c.take n)
 | 0,_,_,_=>by simp; exact .nil
 | _ + 1,_,_,.nil=>by simp; exact .nil
 | n + 1,_,_,.cons v v' l l' hv hl=>.cons v v' _ _ hv (VRels.take n hl)
theorem VRels.drop {φ:Pmap}:∀ (n:Nat) {a c:List Value},VRels φ a c->VRels φ (a.drop n) (c.drop n)
 | 0,_,_,h=>h
 | _ + 1,_,_,.nil=>by simp; exact .nil
 | n + 1,_,_,.cons _ _ l l' _ hl=>VRels.drop n hl
theorem VRels.of_get {φ:Pmap}:∀ (a c:List Value),a.length=c.length->(∀ (i:Nat) (v:Value),a[i]?=some v->∃ cv,c[i]?=some cv/\VRel φ v cv)->VRels φ a c
 | [],[],_,_=>.nil
 | [],_ :: _,h,_=>by simp at h
 | _ :: _,[],h,_=>by simp at h
 | v :: l,v' :: l',h,k=>by
  obtain ⟨cv,h0,h1⟩:=k 0 v rfl;simp at h0; subst h0;exact .cons v v' l l' h1 (VRels.of_get l l' (by grind) (fun i u hu=>by simpa using k (i + 1) u (by grind)))
inductive EntRel (φ:Pmap):List (Value × Value × Nat)->List MapEntry->Prop where
 | nil:EntRel φ [] []
 | cons (k v k' v':Value) (n:Nat) (l:List (Value × Value × Nat)) (l':List MapEntry) (hk:VRel φ k k') (hv:VRel φ v v') (hl:EntRel φ l l') :
   EntRel φ ((k,v,n) :: l) ({ key:=k',val:=v',born:=n } :: l')
theorem EntRel.mono {φ φ':Pmap} (h:φ.le φ'):∀ {a:List (Value × Value × Nat)} {c:List MapEntry},EntRel φ a c->EntRel φ' a c
 | _,_,.nil=>.nil
 | _,_,.cons k v k' v' n l l' hk hv hl=>.cons k v k' v' n l l' (hk.mono h) (hv.mono h) (EntRel.mono h hl)
theorem EntRel.back {φ φ':Pmap} (h:∀ b pl,φ b=some pl->φ' b=some pl):∀ {a:List (Value × Value × Nat)} {c0 c:List MapEntry},EntRel φ a c0->EntRel φ' a c->EntRel φ a c
 | _,_,_,.nil,.nil=>.nil
 | _,_,_,.cons k v _ _ n l _ hk hv hl,.cons _ _ k' v' _ _ l' hk' hv' hl'=>.cons k v k' v' n l l' (hk.back h hk') (hv.back h hv') (EntRel.back h hl hl')
def TyOk (pl:Pl) (len ty lo hi t:Nat):Prop:=ty=t / 2/\(t % 2=1->pl.lo=0/\pl.cb=0/\pl.size=len)/\(lo=hi\/(lo < hi/\lo < pl.size))
def BRel (φ:Pmap) (w:World) (pl:Pl):AObj->Prop
 | .cells c ver fro ro ty'=>pl.ver=ver/\pl.ro=ro/\pl.lo <= c.length/\∃ C ty lo hi,w.heap[pl.blk]?=some (.cells C ty (lo,hi))/\C.size=pl.size /\
   (∀ i v,pl.lo <= i->c[i]?=some v->∃ cv,C[pl.cb + (i - pl.lo)]?=some cv/\VRel φ v cv) /\
   (ro=false->∀ i,fro <= i->pl.lo <= i->pl.cb + (i - pl.lo) < pl.size->¬ (lo <= pl.cb + (i - pl.lo)/\pl.cb + (i - pl.lo) < hi))/\(∀ t,ty'=some t->TyOk pl c.length ty lo hi t)
 | .map es clock=>pl.ver=0/\pl.ro=false/\∃ es',w.heap[pl.blk]?=some (.map es' clock)/\EntRel φ es es'.toList
 | .siter s pos=>pl.ver=0/\pl.ro=false/\pl.lo=0/\pl.cb=0/\w.heap[pl.blk]?=some (.stringIter s pos)
 | .miter mb since seen last=>pl.ver=0/\pl.ro=false/\pl.lo=0/\pl.cb=0/\∃ cm,VRel φ (.map mb) (.map cm)/\w.heap[pl.blk]?=some (.mapIter cm since (match seen with | none=>#[] | some s=>#[s]) last)/\(∀ s,seen=some s->s < last)
structure Rel (B0:Nat) (φ:Pmap) (m:Mem) (w:World):Prop where
 blocks:∀ b pl,φ b=some pl->b < m.next/\∃ o,m.get b=some o/\BRel φ w pl o
 inj:∀ b b' pl pl',φ b=some pl->φ b'=some pl'->pl.ro=false->pl.blk=pl'.blk->b=b'
 base:∀ b pl,φ b=some pl->pl.ro=false->B0 <= pl.blk
 size:B0 <= w.heap.size
 fresh:∀ b,m.next <= b->m.get b=none
structure Stp (φ:Pmap) (m:Mem) (w:World) (φ':Pmap) (m':Mem) (w':World):Prop where
 le:φ.le φ'
 next:m.next <= m'.next
 low:m'.low <= m.low
 same:∀ b,b < m'.low->b < m.next->m'.get b=m.get b/\φ' b=φ b
 os:w'.os=w.os
 tape:w'.tape=w.tape
 output:w'.output=w.output
 size:w.heap.size <= w'.heap.size
 frame:∀ B,B < w.heap.size->(∀ b pl,φ b=some pl->pl.ro=false->pl.blk ≠ B)->w'.heap[B]?=w.heap[B]?
 img:∀ b pl,φ' b=some pl->pl.ro=false->(∃ b' pl',φ b'=some pl'/\pl'.ro=false/\pl'.blk=pl.blk)\/w.heap.size <= pl.blk
 un:∀ b,b < m.next->φ b=none->φ' b=none/\m'.get b=m.get b
theorem Stp.refl (φ:Pmap) (m:Mem) (w:World):Stp φ m w φ m w:=
 ⟨.refl φ,Nat.le_refl _,Nat.le_refl _,fun _ _ _=>⟨rfl,rfl⟩,rfl,rfl,rfl,Nat.le_refl _,fun _ _ _=>rfl,fun b pl h hr=>.inl ⟨b,pl,h,hr,rfl⟩,fun _ _ h=>⟨h,rfl⟩⟩
theorem Stp.trans {φ φ' φ'':Pmap} {m m' m'':Mem} {w w' w'':World} (h:Stp φ m w φ' m' w') (k:Stp φ' m' w' φ'' m'' w''):Stp φ m w φ'' m'' w'' where
 le:=h.le.trans k.le
 next:=Nat.le_trans h.next k.next
 low:=Nat.le_trans k.low h.low
 same:=fun b h1 h2=>by
  obtain ⟨a1,a2⟩:=h.same b (Nat.lt_of_lt_of_le h1 k.low) h2;obtain ⟨b1,b2⟩:=k.same b h1 (Nat.lt_of_lt_of_le h2 h.next)
  grind
 os:=k.os.trans h.os
 tape:=k.tape.trans h.tape
 output:=k.output.trans h.output
 size:=Nat.le_trans h.size k.size
 frame:=fun B hB hn=>by
  rw [k.frame B (Nat.lt_of_lt_of_le hB h.size) ?_,h.frame B hB hn];intro b pl hb hr e;rcases h.img b pl hb hr with ⟨b',pl',h1,h2,h3⟩ | h1
  ·grind
  ·omega
 img:=fun b pl hb hr=>by
  rcases k.img b pl hb hr with ⟨b',pl',h1,h2,h3⟩ | h1
  ·rcases h.img b' pl' h1 h2 with ⟨b2,pl2,g1,g2,g3⟩ | g1
   ·grind
   ·omega
  ·exact .inr (Nat.le_trans h.size h1)
 un:=fun b h1 h2=>by
  obtain ⟨a1,a2⟩:=h.un b h1 h2;obtain ⟨b1,b2⟩:=k.un b (Nat.lt_of_lt_of_le h1 h.next) a1
  grind
theorem BRel.of_heap {φ:Pmap} {w w':World} {pl:Pl} (h:w'.heap[pl.blk]?=w.heap[pl.blk]?) {o:AObj} (k:BRel φ w pl o):BRel φ w' pl o:=by
 simp_all [BRel]
theorem BRel.mono {φ φ':Pmap} (h:φ.le φ') {w:World} {pl:Pl} {o:AObj} (k:BRel φ w pl o):BRel φ' w pl o:=by
 cases o with
 | cells c ver fro ro ty' =>
  obtain ⟨h1,h2,h3,C,ty,lo,hi,h4,h5,h6,h7⟩:=k;exact ⟨h1,h2,h3,C,ty,lo,hi,h4,h5,fun i v a b=>by obtain ⟨cv,x,y⟩:=h6 i v a b; exact ⟨cv,x,y.mono h⟩,h7⟩
 | map es clock =>
  obtain ⟨h1,h2,es',h3,h4⟩:=k;exact ⟨h1,h2,es',h3,h4.mono h⟩
 | siter s pos=>exact k
 | miter mb since seen last =>
  obtain ⟨h1,h2,h3,h4,cm,h5,h6⟩:=k;exact ⟨h1,h2,h3,h4,cm,h5.mono h,h6⟩
theorem Rel.of_heap {B0:Nat} {φ:Pmap} {m:Mem} {w w':World} (h:Rel B0 φ m w) (e:w'.heap=w.heap):Rel B0 φ m w' where
 blocks:=fun b pl hb=>by obtain ⟨h1,o,h2,h3⟩:=h.blocks b pl hb; exact ⟨h1,o,h2,h3.of_heap (by rw [e])⟩
 inj:=h.inj
 base:=h.base
 size:=by rw [e]; exact h.size
 fresh:=h.fresh
theorem Rel.congr {B0:Nat} {φ:Pmap} {m m':Mem} {w:World} (h:Rel B0 φ m w) (e:MEq m m'):Rel B0 φ m' w where
 blocks:=fun b pl hb=>by obtain ⟨h1,o,h2,h3⟩:=h.blocks b pl hb; exact ⟨by rw [e.next]; exact h1,o,by rw [e.get]; exact h2,h3⟩
 inj:=h.inj
 base:=h.base
 size:=h.size
 fresh:=fun b hb=>by simp_all [e.get,h.fresh,e.next]
theorem Stp.congr {φ φ':Pmap} {m m1 m':Mem} {w w':World} (h:Stp φ m w φ' m1 w') (e:MEq m1 m'):Stp φ m w φ' m' w' where
 le:=h.le
 next:=by rw [e.next]; exact h.next
 low:=by rw [e.low]; exact h.low
 same:=fun b h1 h2=>by simp_all [e.get,h.same,e.low]
 os:=h.os
 tape:=h.tape
 output:=h.output
 size:=h.size
 frame:=h.frame
 img:=h.img
 un:=fun b h1 h2=>by rw [e.get]; exact h.un b h1 h2
theorem Stp.of_heap {φ φ':Pmap} {m m':Mem} {w w1 w' w1':World} (h:Stp φ m w φ' m' w') (e:w1.heap=w.heap) (eo:w1.os=w.os) (et:w1.tape=w.tape) (eu:w1.output=w.output)
  (e':w1'.heap=w'.heap) (eo':w1'.os=w'.os) (et':w1'.tape=w'.tape) (eu':w1'.output=w'.output):Stp φ m w1 φ' m' w1' where
 le:=h.le
 next:=h.next
 low:=h.low
 same:=h.same
 os:=by rw [eo,eo']; exact h.os
 tape:=by rw [et,et']; exact h.tape
 output:=by rw [eu,eu']; exact h.output
 size:=by rw [e,e']; exact h.size
 frame:=fun B=>by rw [e,e']; exact h.frame B
 img:=fun b pl=>by rw [e]; exact h.img b pl
 un:=h.un
theorem BRel.there {φ:Pmap} {w:World} {pl:Pl} {o:AObj} (k:BRel φ w pl o):pl.blk < w.heap.size:=by
 have key:∀ x,w.heap[pl.blk]?=some x->pl.blk < w.heap.size:=fun x hx=>by
  grind
 cases o with
 | cells c ver fro ro ty'=>obtain ⟨_,_,_,C,ty,lo,hi,h4,_⟩:=k; grind
 | map es clock=>obtain ⟨_,_,es',h3,_⟩:=k; grind
 | siter s pos=>exact key _ k.2.2.2.2
 | miter _ _ _ _=>obtain ⟨_,_,_,_,_,_,h6,_⟩:=k; grind
end Go.Ab
namespace Go.Ab
def Pmap.upd (φ:Pmap) (b:Nat) (pl:Pl):Pmap:=fun x=>if x=b then some pl else φ x
theorem Pmap.upd_same (φ:Pmap) (b:Nat) (pl:Pl):φ.upd b pl b=some pl:=by simp [Pmap.upd]
theorem Pmap.upd_other {φ:Pmap} {b x:Nat} (pl:Pl) (h:x ≠ b):φ.upd b pl x=φ x:=by simp [Pmap.upd,h]
theorem X7i {B0:Nat} {φ:Pmap} {m:Mem} {w w1:World} (h:Rel B0 φ m w) (O:Obj) (e:w1.heap=w.heap.push O) (eo:w1.os=w.os) (et:w1.tape=w.tape) (eu:w1.output=w.output)
  (pl:Pl) (hblk:pl.blk=w.heap.size) (o:AObj) (hb:BRel (φ.upd m.next pl) w1 pl o) :
  Rel B0 (φ.upd m.next pl) (m.push o) w1/\Stp φ m w (φ.upd m.next pl) (m.push o) w1:=by
 have hfresh:∀ pl',φ m.next ≠ some pl':=fun pl' hx=>by have:=(h.blocks _ _ hx).1; omega
 have hle:φ.le (φ.upd m.next pl):=fun b p hb=>⟨p,by rw [Pmap.upd_other pl (fun x=>hfresh p (by grind)),hb],.inl rfl⟩
 have hold:∀ B,B < w.heap.size->w1.heap[B]?=w.heap[B]?:=fun B hB=>by grind
 refine ⟨⟨fun b p hp=>?_,fun b b' p p' hp hp' hr heq=>?_,fun b p hp hr=>?_,by grind [h.size],fun b hb=>by rw [Mem.get_push,if_neg (by simp at hb; omega)]; exact h.fresh b (by simp at hb; omega)⟩,?_⟩
 ·by_cases hbn:b=m.next
  ·subst hbn;rw [Pmap.upd_same] at hp;cases hp;exact ⟨by simp,o,by rw [Mem.get_push,if_pos rfl],hb⟩
  ·rw [Pmap.upd_other pl hbn] at hp;obtain ⟨h1,o',h2,h3⟩:=h.blocks b p hp;refine ⟨by simp; omega,o',by rw [Mem.get_push,if_neg (Ne.symm hbn)]; exact h2,?_⟩;exact (h3.mono hle).of_heap (hold _ h3.there)
 ·by_cases hbn:b=m.next
  ·by_cases hbn':b'=m.next
   ·omega
   ·subst hbn;rw [Pmap.upd_same] at hp;rw [Pmap.upd_other pl hbn'] at hp';cases hp;obtain ⟨_,o',_,h3⟩:=h.blocks b' p' hp';have:=h3.there;omega
  ·by_cases hbn':b'=m.next
   ·subst hbn';rw [Pmap.upd_same] at hp';rw [Pmap.upd_other pl hbn] at hp;cases hp';obtain ⟨_,o',_,h3⟩:=h.blocks b p hp;have:=h3.there;omega
   ·rw [Pmap.upd_other pl hbn] at hp;rw [Pmap.upd_other pl hbn'] at hp';exact h.inj b b' p p' hp hp' hr heq
 ·by_cases hbn:b=m.next
  ·subst hbn;rw [Pmap.upd_same] at hp;cases hp;rw [hblk]; exact h.size
  ·rw [Pmap.upd_other pl hbn] at hp;exact h.base b p hp hr
 ·refine ⟨hle,by simp,by simp,fun b _ hb2=>?_,eo,et,eu,by grind,fun B hB _=>hold B hB,fun b p hp hr=>?_,fun b hb1 hb2=>?_⟩
  ·have hne:b ≠ m.next:=by omega
   exact ⟨by rw [Mem.get_push,if_neg (Ne.symm hne)],Pmap.upd_other pl hne⟩
  ·by_cases hbn:b=m.next
   ·subst hbn;rw [Pmap.upd_same] at hp
    grind
   ·rw [Pmap.upd_other pl hbn] at hp
    grind
  ·have hne:b ≠ m.next:=by omega
   exact ⟨by rw [Pmap.upd_other pl hne]; exact hb2,by rw [Mem.get_push,if_neg (Ne.symm hne)]⟩
theorem Xar {B0:Nat} {φ:Pmap} {m:Mem} {w w1:World} (h:Rel B0 φ m w) (b:Nat) (pl pl':Pl) (hb:φ b=some pl) (hro:pl.ro=false) (hblk:pl'.blk=pl.blk) (hv:pl'=pl\/pl.ver < pl'.ver)
  (esz:w1.heap.size=w.heap.size) (e:∀ B,B ≠ pl.blk->w1.heap[B]?=w.heap[B]?) (eo:w1.os=w.os) (et:w1.tape=w.tape) (eu:w1.output=w.output)
  (o:AObj) (hb':BRel (φ.upd b pl') w1 pl' o) :
  Rel B0 (φ.upd b pl') (m.put b o) w1/\Stp φ m w (φ.upd b pl') (m.put b o) w1:=by
 obtain ⟨hbn,o0,hg0,hr0⟩:=h.blocks b pl hb;have hle:φ.le (φ.upd b pl'):=fun x p hx=>by
  by_cases hxb:x=b
  ·subst hxb;rw [hb] at hx;cases hx;exact ⟨pl',Pmap.upd_same _ _ _,hv⟩
  ·exact ⟨p,by rw [Pmap.upd_other pl' hxb,hx],.inl rfl⟩
 refine ⟨⟨fun x p hp=>?_,fun x x' p p' hp hp' hr heq=>?_,fun x p hp hr=>?_,by rw [esz]; exact h.size,fun x hx=>by rw [Mem.get_put,if_neg (by simp at hx; omega)]; exact h.fresh x (by simp_all)⟩,?_⟩
 ·by_cases hxb:x=b
  ·subst hxb;rw [Pmap.upd_same] at hp;cases hp;exact ⟨by simp_all,o,by rw [Mem.get_put,if_pos rfl],hb'⟩
  ·rw [Pmap.upd_other pl' hxb] at hp;obtain ⟨h1,o',h2,h3⟩:=h.blocks x p hp;refine ⟨by simp_all,o',by rw [Mem.get_put,if_neg (Ne.symm hxb)]; exact h2,?_⟩;have hne:p.blk ≠ pl.blk:=fun hh=>hxb (h.inj b x pl p hb hp hro hh.symm).symm;exact (h3.mono hle).of_heap (e _ hne)
 ·by_cases hxb:x=b
  ·by_cases hxb':x'=b
   ·omega
   ·subst hxb;rw [Pmap.upd_same] at hp;rw [Pmap.upd_other pl' hxb'] at hp';cases hp;exact h.inj x x' pl p' hb hp' hro (hblk ▸ heq)
  ·by_cases hxb':x'=b
   ·subst hxb';rw [Pmap.upd_same] at hp';rw [Pmap.upd_other pl' hxb] at hp;cases hp';exact h.inj x x' p pl hp hb hr (hblk ▸ heq)
   ·rw [Pmap.upd_other pl' hxb] at hp;rw [Pmap.upd_other pl' hxb'] at hp';exact h.inj x x' p p' hp hp' hr heq
 ·by_cases hxb:x=b
  ·subst hxb;rw [Pmap.upd_same] at hp;cases hp;rw [hblk]; exact h.base x pl hb hro
  ·rw [Pmap.upd_other pl' hxb] at hp;exact h.base x p hp hr
 ·refine ⟨hle,by simp,by simp; omega,fun x hx1 hx2=>?_,eo,et,eu,by omega,fun B hB hn=>e B (fun hh=>hn b pl hb hro hh.symm),fun x p hp hr=>?_,fun x hx1 hx2=>?_⟩
  ·have hne:x ≠ b:=by simp at hx1; omega
   exact ⟨by rw [Mem.get_put,if_neg (Ne.symm hne)],Pmap.upd_other pl' hne⟩
  ·by_cases hxb:x=b
   ·subst hxb;rw [Pmap.upd_same] at hp
    grind
   ·rw [Pmap.upd_other pl' hxb] at hp
    grind
  ·have hne:x ≠ b:=fun hh=>by grind
   exact ⟨by rw [Pmap.upd_other pl' hne]; exact hx2,by rw [Mem.get_put,if_neg (Ne.symm hne)]⟩
end Go.Ab
namespace Go.Ab
theorem Addr.add_none (B O n:Nat):(⟨B,O,none⟩:Addr).add n=⟨B,O + n,none⟩:=by unfold Addr.add; split <;> simp_all
theorem cell?_of {w:World} {B:Nat} {C:Array Value} {ty:TypeId} {fz:Nat × Nat} (h:w.heap[B]?=some (.cells C ty fz)) (i:Nat):w.cell? ⟨B,i,none⟩=C[i]?:=by
 simp [World.cell?,h]
theorem frozen?_of {w:World} {B:Nat} {C:Array Value} {ty:TypeId} {lo hi:Nat} (h:w.heap[B]?=some (.cells C ty (lo,hi))) (i:Nat):w.frozen? ⟨B,i,none⟩=(decide (lo <= i) && decide (i < hi)):=by
 simp [World.frozen?,h]
theorem Xeg {B0:Nat} {φ:Pmap} {m:Mem} {w:World} (h:Rel B0 φ m w) {a A:Addr} (hp:VRel φ (.pointer (some a)) (.pointer (some A)))
  {c:List Value} {ver fro:Nat} {ro:Bool} {ty':Option Nat} (hg:m.get a.block=some (.cells c ver fro ro ty')) (hv:a.spot=some ver) :
  ∃ pl,φ a.block=some pl/\pl.ver=ver/\pl.ro=ro/\pl.lo <= a.off/\A=⟨pl.blk,pl.cb + (a.off - pl.lo),none⟩/\BRel φ w pl (.cells c ver fro ro ty'):=by
 cases hp with
 | ptr b o r B O pl hb hr hpp =>
  obtain ⟨_,o',h2,h3⟩:=h.blocks b pl hb;simp only at hg hv;rw [hg] at h2;cases h2;cases hv;have hver:=h3.1;obtain ⟨h4,h5,h6⟩:=hpp hver.symm;exact ⟨pl,hb,hver,h3.2.1,h5,by grind,h3⟩
theorem X2z {B0:Nat} {φ:Pmap} {m:Mem} {w:World} (h:Rel B0 φ m w) {a A:Addr} (hp:VRel φ (.pointer (some a)) (.pointer (some A))) {n:Nat} {cs:List Value}
  (hg:getCells m a n=some cs):∃ ccs,VRels φ cs ccs/\ccs.length=n/\(∀ j v,ccs[j]?=some v->w.cell? (A.add j)=some v):=by
 rw [Xn] at hg; unfold Xy at hg;split at hg
 ·rename_i c ver fro ro ty' hm;split at hg
  ·rename_i hc;simp at hc;cases hg;obtain ⟨pl,hb,h1,h2,h3,h4,h5⟩:=Xeg h hp hm hc.1;obtain ⟨_,_,h6,C,ty,lo,hi,h7,h8,h9,_⟩:=h5;rcases Nat.eq_zero_or_pos n with hn | hn
   ·subst hn;simp only [List.take_zero];exact ⟨[],.nil,rfl,fun j v hj=>by grind⟩
   have hget:∀ j,j < n->∃ v cv,c[a.off + j]?=some v/\C[pl.cb + (a.off - pl.lo) + j]?=some cv/\VRel φ v cv:=fun j hj=>by
    grind
   have hcl:pl.cb + (a.off - pl.lo) + n <= C.size:=by
    obtain ⟨v,cv,_,k2,_⟩:=hget (n - 1) (by omega);obtain ⟨hlt,_⟩:=Array.getElem?_eq_some_iff.1 k2;omega
   refine ⟨(C.toList.drop (pl.cb + (a.off - pl.lo))).take n,?_,by grind,fun j v hj=>?_⟩
   ·refine VRels.of_get _ _ (by grind) (fun j v hj=>?_)
    grind
   ·rw [List.getElem?_take] at hj;split at hj
    ·rw [h4,Addr.add_none,cell?_of h7]
     grind
    grind
  grind
 grind
theorem X5z (b:Nat) (ty:TypeId) (fz:Nat × Nat):∀ (vs:List Value) (o:Nat) (w:World) (C:Array Value),w.heap[b]?=some (.cells C ty fz)->o + vs.length <= C.size ->
  ∃ C',(w.setCells b o vs).heap[b]?=some (.cells C' ty fz)/\C'.size=C.size/\(∀ i,C'[i]?=if o <= i/\i < o + vs.length then vs[i - o]? else C[i]?)
 | [],o,w,C,h,_=>⟨C,h,rfl,fun i=>by grind⟩
 | v :: r,o,w,C,h,hl=>by
  simp at hl;have h1:(w.setCell ⟨b,o,none⟩ v).heap[b]?=some (.cells (C.setIfInBounds o v) ty fz):=by
   simp [World.setCell,Array.getElem?_modify,h]
  obtain ⟨C',k1,k2,k3⟩:=X5z b ty fz r (o + 1) _ _ h1 (by simp; omega);refine ⟨C',k1,by grind,fun i=>?_⟩
  grind
theorem X5t (b:Nat):∀ (vs:List Value) (o:Nat) (w:World) (k:Nat),k ≠ b->(w.setCells b o vs).heap[k]?=w.heap[k]?
 | [],_,_,_,_=>rfl
 | v :: r,o,w,k,h=>by
  simp only [World.setCells];rw [X5t b r _ _ k h];simp only [World.setCell,Array.getElem?_modify]
  grind
theorem X65 (b:Nat):∀ (vs:List Value) (o:Nat) (w:World),(w.setCells b o vs).heap.size=w.heap.size/\(w.setCells b o vs).os=w.os/\(w.setCells b o vs).tape=w.tape/\(w.setCells b o vs).output=w.output
 | [],_,_=>⟨rfl,rfl,rfl,rfl⟩
 | v :: r,o,w=>by
  obtain ⟨h1,h2,h3,h4⟩:=X65 b r (o + 1) (w.setCell ⟨b,o,none⟩ v);exact ⟨by simpa [World.setCells] using h1,h2,h3,h4⟩
theorem Xoa {φ:Pmap} {v cv:Value} (h:VRel φ v cv) (k:one v=true):cv.oneCell'=true:=by
 cases h <;> first | rfl | (simp [one] at k)
theorem Xfj {φ:Pmap}:∀ {vs cvs:List Value},VRels φ vs cvs->vs.all one=true->∀ v ∈ cvs,v.oneCell'=true
 | _,_,.nil,_=>by simp
 | _,_,.cons v v' l l' h hl,k=>by
  simp only [List.all_cons,Bool.and_eq_true] at k;intro u hu;rcases List.mem_cons.1 hu with rfl | hu
  ·exact Xoa h k.1
  ·exact Xfj hl k.2 u hu
theorem Xgy {P:Program} {B0:Nat} {φ:Pmap} {m m':Mem} {w:World} (h:Rel B0 φ m w) {a A:Addr} (hp:VRel φ (.pointer (some a)) (.pointer (some A))) {vs cvs:List Value} (hvs:VRels φ vs cvs)
  (hg:X53 m a vs=some m'):∃ w' φ',(storeCells A cvs).run P w=.ok () w'/\Rel B0 φ' m' w'/\Stp φ m w φ' m' w'/\φ.le φ':=by
 unfold X53 at hg;split at hg
 ·rename_i c ver fro ty' hm;split at hg
  ·rename_i hc;simp only [Bool.and_eq_true,decide_eq_true_eq] at hc;obtain ⟨⟨⟨hc1,hc2⟩,hc3⟩,hc4⟩:=hc;cases hg;obtain ⟨pl,hb,h1,h2,h3,h4,hbr⟩:=Xeg h hp hm hc1;obtain ⟨_,_,h6,C,ty,lo,hi,h7,h8,h9,h10⟩:=hbr;have hlen:=hvs.length;by_cases hnil:vs=[]
   ·subst hnil;cases hvs;refine ⟨w,φ,rfl,?_,?_,.refl φ⟩
    ·have e:φ.upd a.block pl=φ:=by
      funext x; unfold Pmap.upd; split
      ·grind
      ·rfl
     have:=Xar h _ pl pl hb h2 rfl (.inl rfl) rfl (fun _ _=>rfl) rfl rfl rfl (.cells c ver fro _ ty') (by rw [e]; exact ⟨h1,h2,h6,C,ty,lo,hi,h7,h8,h9,h10⟩);simp_all
    ·have e:φ.upd a.block pl=φ:=by
      funext x; unfold Pmap.upd; split
      ·grind
      ·rfl
     have:=Xar h _ pl pl hb h2 rfl (.inl rfl) rfl (fun _ _=>rfl) rfl rfl rfl (.cells c ver fro _ ty') (by rw [e]; exact ⟨h1,h2,h6,C,ty,lo,hi,h7,h8,h9,h10⟩);simp_all
   have hpos:0 < vs.length:=List.length_pos_iff.2 hnil;have hin:∀ j,j < vs.length->pl.cb + (a.off - pl.lo) + j < C.size:=fun j hj=>by
    have hx:a.off + j < c.length:=by omega
    obtain ⟨cv,k1,_⟩:=h9 (a.off + j) c[a.off + j] (by omega) (List.getElem?_eq_getElem hx)
    grind
   have hin':=hin (vs.length - 1) (by omega);have hrun:=run_storeCells_cells (P:=P) pl.blk (pl.cb + (a.off - pl.lo)) cvs 0 w
    (fun j hj=>by
     rw [Nat.add_zero,cell?_of h7,Array.getElem?_eq_getElem (hin j (by omega))]; rfl)
    (fun j hj=>by
     rw [Nat.add_zero,frozen?_of h7];have:=h10.1 rfl (a.off + j) (by omega) (by omega) (by omega);simp only [Bool.and_eq_false_iff,decide_eq_false_iff_not];omega)
    (Xfj hvs hc4)
   rw [Nat.add_zero,<- h4] at hrun;obtain ⟨C',k1,k2,k3⟩:=X5z _ ty _ cvs (pl.cb + (a.off - pl.lo)) w C h7 (by omega);obtain ⟨r1,r2,r3,r4⟩:=X65 pl.blk cvs (pl.cb + (a.off - pl.lo)) w;have e:φ.upd a.block pl=φ:=by
    funext x; unfold Pmap.upd; split
    ·grind
    ·rfl
   have hput:=Xar (w1:=w.setCells pl.blk (pl.cb + (a.off - pl.lo)) cvs) h a.block pl pl hb h2 rfl (.inl rfl) r1 (fun B hB=>X5t _ _ _ _ _ hB) r2 r3 r4
    (.cells (c.take a.off ++ vs ++ c.drop (a.off + vs.length)) ver fro false ty') (by
     rw [e];refine ⟨h1,h2,by grind,C',ty,lo,hi,k1,by omega,fun i v hi1 hi2=>?_,h10.1,fun t ht=>⟨(h10.2 t ht).1,fun ho=>by have:=(h10.2 t ht).2.1 ho; grind,(h10.2 t ht).2.2⟩⟩;rw [k3];rw [List.append_assoc,List.getElem?_append] at hi2;by_cases hA:i < (c.take a.off).length
     ·rw [if_pos hA,List.getElem?_take] at hi2;have hA':i < a.off:=by simp at hA; omega
      rw [if_pos hA'] at hi2;rw [if_neg (by omega)]
      grind
     ·rw [if_neg hA] at hi2;have hA':(c.take a.off).length=a.off:=by simp; omega
      rw [hA'] at hi2 hA;rw [List.getElem?_append] at hi2;by_cases hB:i - a.off < vs.length
      ·rw [if_pos hB] at hi2;rw [if_pos (by omega)];obtain ⟨cv,q1,q2⟩:=hvs.get hi2
       grind
      ·rw [if_neg hB,List.getElem?_drop] at hi2;rw [if_neg (by omega)]
       grind)
   rw [e] at hput;exact ⟨_,φ,hrun,hput.1,hput.2,.refl φ⟩
  grind
 grind
theorem X8j {P:Program} {B0:Nat} {φ:Pmap} {m m':Mem} {w:World} (h:Rel B0 φ m w) {a A:Addr} (hp:VRel φ (.pointer (some a)) (.pointer (some A))) {vs cvs:List Value} (hvs:VRels φ vs cvs)
  (hg:setCells m a vs=some m'):∃ w' φ',(storeCells A cvs).run P w=.ok () w'/\Rel B0 φ' m' w'/\Stp φ m w φ' m' w'/\φ.le φ':=by
 obtain ⟨m2,h1,h2⟩:=Xbj hg;obtain ⟨w',φ',k1,k2,k3,k4⟩:=Xgy (P:=P) h hp hvs h1;exact ⟨w',φ',k1,k2.congr h2,k3.congr h2,k4⟩
end Go.Ab
namespace Go.Ab
theorem Xsu {B0:Nat} {φ:Pmap} {m:Mem} {w w1:World} (h:Rel B0 φ m w) (O:Obj) (e:w1.heap=w.heap.push O) (eo:w1.os=w.os) (et:w1.tape=w.tape) (eu:w1.output=w.output)
  (b:Nat) (pl pl':Pl) (hb:φ b=some pl) (hblk:pl'.blk=w.heap.size) (hv:pl.ver < pl'.ver) (o:AObj) (hbr:BRel (φ.upd b pl') w1 pl' o) :
  Rel B0 (φ.upd b pl') (m.put b o) w1/\Stp φ m w (φ.upd b pl') (m.put b o) w1:=by
 obtain ⟨hbn,o0,hg0,hr0⟩:=h.blocks b pl hb;have hle:φ.le (φ.upd b pl'):=fun x p hx=>by
  by_cases hxb:x=b
  ·subst hxb;rw [hb] at hx;cases hx;exact ⟨pl',Pmap.upd_same _ _ _,.inr hv⟩
  ·exact ⟨p,by rw [Pmap.upd_other pl' hxb,hx],.inl rfl⟩
 have hold:∀ B,B < w.heap.size->w1.heap[B]?=w.heap[B]?:=fun B hB=>by grind
 have hthere:∀ x p,φ x=some p->p.blk < w.heap.size:=fun x p hx=>by
  obtain ⟨_,o',_,h3⟩:=h.blocks x p hx;exact h3.there
 refine ⟨⟨fun x p hp=>?_,fun x x' p p' hp hp' hr heq=>?_,fun x p hp hr=>?_,by grind [h.size],fun x hx=>by rw [Mem.get_put,if_neg (by simp at hx; omega)]; exact h.fresh x (by simp_all)⟩,?_⟩
 ·by_cases hxb:x=b
  ·subst hxb;rw [Pmap.upd_same] at hp;cases hp;exact ⟨by simp_all,o,by rw [Mem.get_put,if_pos rfl],hbr⟩
  ·rw [Pmap.upd_other pl' hxb] at hp;obtain ⟨h1,o',h2,h3⟩:=h.blocks x p hp;refine ⟨by simp_all,o',by rw [Mem.get_put,if_neg (Ne.symm hxb)]; exact h2,?_⟩;exact (h3.mono hle).of_heap (hold _ h3.there)
 ·by_cases hxb:x=b
  ·by_cases hxb':x'=b
   ·omega
   ·subst hxb;rw [Pmap.upd_same] at hp;rw [Pmap.upd_other pl' hxb'] at hp'
    grind
  ·by_cases hxb':x'=b
   ·subst hxb';rw [Pmap.upd_same] at hp';rw [Pmap.upd_other pl' hxb] at hp
    grind
   ·rw [Pmap.upd_other pl' hxb] at hp;rw [Pmap.upd_other pl' hxb'] at hp';exact h.inj x x' p p' hp hp' hr heq
 ·by_cases hxb:x=b
  ·subst hxb;rw [Pmap.upd_same] at hp;cases hp;rw [hblk]; exact h.size
  ·rw [Pmap.upd_other pl' hxb] at hp;exact h.base x p hp hr
 ·refine ⟨hle,by simp,by simp; omega,fun x hx1 hx2=>?_,eo,et,eu,by grind,fun B hB hn=>hold B hB,fun x p hp hr=>?_,fun x hx1 hx2=>?_⟩
  ·have hne:x ≠ b:=by simp at hx1; omega
   exact ⟨by rw [Mem.get_put,if_neg (Ne.symm hne)],Pmap.upd_other pl' hne⟩
  ·by_cases hxb:x=b
   ·subst hxb;rw [Pmap.upd_same] at hp
    grind
   ·rw [Pmap.upd_other pl' hxb] at hp
    grind
  ·have hne:x ≠ b:=fun hh=>by grind
   exact ⟨by rw [Pmap.upd_other pl' hne]; exact hx2,by rw [Mem.get_put,if_neg (Ne.symm hne)]⟩
theorem X8x {P:Program} {B0:Nat} {φ:Pmap} {m:Mem} {w:World} (h:Rel B0 φ m w) {x cx:Value} (hx:VRel φ x cx) {n k:Nat} (hn:X2p x=some n) (hk:k <= n) {size:Nat} {cs:List Value}
  (hg:X1n size k x m=some cs) :
  (∀ w1,w1.heap=w.heap->(Builtin.lenOf cx).run P w1=.ok n w1)/\∃ ccs,VRels φ cs ccs/\((∃ s,x=.string s)->size=1->ccs.length=k * size)/\((∀ s,x ≠ .string s)->ccs.length=k * size) /\
   (∀ w1,w1.heap=w.heap->(Builtin.firstCells size k cx).run P w1=.ok ccs.toArray w1):=by
 cases hx with
 | string s =>
  simp only [X2p,Option.some.injEq] at hn;simp only [X1n,Option.some.injEq] at hg;subst hg hn;refine ⟨fun w1 _=>rfl,(s.data.toList.take k).map (fun b=>.int .u8 b.toNat),?_,?_,fun hne=>absurd rfl (hne s),fun w1 _=>?_⟩
  ·exact VRels.of_get _ _ rfl (fun i v hv=>⟨v,hv,by
    rw [List.getElem?_map] at hv;cases hu:(List.take k s.data.toList)[i]? with
    | none=>grind
    | some u=>rw [hu] at hv; cases hv; exact .int _ _⟩)
  ·simp_all
  ·simp only [Builtin.firstCells,Sem.run_pure];congr 1;apply Array.ext';simp
 | nilSlice =>
  simp only [X2p,Option.some.injEq] at hn;subst hn;obtain rfl:k=0:=by omega
  simp only [X1n,if_true,Option.some.injEq] at hg;subst hg;exact ⟨fun w1 _=>rfl,[],.nil,fun _ _=>by simp,fun _=>by simp,fun w1 _=>rfl⟩
 | slice b o es len t B O cap pl hb hes hle hr hp =>
  simp only [X2p,Option.some.injEq] at hn;simp only [X1n] at hg;subst hn;split at hg
  ·rename_i hsp;simp only [Option.some.injEq] at hsp;subst hsp;refine ⟨fun w1 _=>rfl,?_⟩;by_cases hk0:k * es=0
   ·rw [hk0] at hg;rw [Xn] at hg; unfold Xy at hg;split at hg
    ·split at hg
     ·simp only [List.take_zero,Option.some.injEq] at hg;subst hg;exact ⟨[],.nil,fun _ _=>by grind,fun _=>by grind,fun w1 _=>by simp [Builtin.firstCells,hk0,loadCells,loadCellsFrom]⟩
     trivial
    ·cases hg
   ·-- placed
    have hm:∃ c fro ro ty',m.get b=some (.cells c (t / 2) fro ro ty'):=by
     rw [Xn] at hg; unfold Xy at hg;split at hg
     ·rename_i c ver fro ro ty' hm;split at hg
      ·rename_i hc;simp only [Bool.and_eq_true,decide_eq_true_eq,Option.some.injEq] at hc;exact ⟨c,fro,ro,ty',by rw [hm,hc.1]⟩
      ·cases hg
     ·cases hg
    obtain ⟨c,fro,ro,ty',hm⟩:=hm;obtain ⟨_,o',h2,h3⟩:=h.blocks b pl hb;rw [hm] at h2;cases h2;have hver:=h3.1;obtain ⟨h4,_⟩:=hp hver.symm;have hcap:cap ≠ 0:=fun hc=>by
     grind
    rcases h4 with h4 | ⟨h4,h5,h6,h7⟩
    ·omega
    have hptr:VRel φ _ _:=.ptr b o _ B O pl hb (by omega) (fun _=>⟨h4,h5,h6⟩);obtain ⟨ccs,k1,k2,k3⟩:=X2z h hptr hg;refine ⟨ccs,k1,fun _ _=>k2,fun _=>k2,fun w1 hw1=>?_⟩;have:=run_firstCells_some (P:=P) w1 es k _ len cap ccs k2 (fun j v hj=>by
     have:=k3 j v hj;simp only [World.cell?] at this ⊢;rw [hw1]; exact this)
    grind
  trivial
 | _=>trivial
end Go.Ab
namespace Go.Ab
section
variable {P:Program} (w:World) {t xt ty e:TypeId} {i:TypeInfo} {d:TypeDesc}
theorem X80 {w':World} (ht:P.underlying t=some (.slice e)) (hxt:P.underlying xt=some d) (hd:d=.string\/∃ e',d=.slice e') (hi:P.info? e=some i)
  (A:Addr) (sLen sCap n:Nat) (x:Value) (news:List Value) (hlen:(Builtin.lenOf x).run P w=.ok n w) (hf:(Builtin.firstCells i.size n x).run P w=.ok news.toArray w)
  (hroom:sLen + n <= sCap) (hst:(storeCells (A.add (sLen * i.size)) news).run P w=.ok () w') :
  (Builtin.append_ #[t,xt] ty #[.slice (some A) sLen sCap,x]).run P w=.ok (.slice (some A) (sLen + n) sCap) w':=by
 rcases hd with rfl | ⟨e',rfl⟩ <;>
 simp [Builtin.append_,run_underlying ht,run_underlying hxt,sizeOf,typeInfo,hi,hlen,hroom,hf,hst]
theorem run_append_nothing (ht:P.underlying t=some (.slice e)) (hxt:P.underlying xt=some d) (hd:d=.string\/∃ e',d=.slice e') (hi:P.info? e=some i)
  (x:Value) (news:List Value) (hlen:(Builtin.lenOf x).run P w=.ok 0 w) (hf:(Builtin.firstCells i.size 0 x).run P w=.ok news.toArray w) :
  (Builtin.append_ #[t,xt] ty #[.slice none 0 0,x]).run P w=.ok (.slice none 0 0) w:=by
 rcases hd with rfl | ⟨e',rfl⟩ <;>
 simp [Builtin.append_,run_underlying ht,run_underlying hxt,sizeOf,typeInfo,hi,hlen,hf]
theorem X6q (ht:P.underlying t=some (.slice e)) (hxt:P.underlying xt=some d) (hd:d=.string\/∃ e',d=.slice e') (hi:P.info? e=some i) {z:Value} (hz:i.zero=some z)
  (b:Option Addr) (sLen sCap n:Nat) (x:Value) (olds news:List Value) (hlen:(Builtin.lenOf x).run P w=.ok n w)
  (hf:(Builtin.firstCells i.size n x).run P w.drew=.ok news.toArray w.drew) (ho:(Builtin.firstCells i.size sLen (.slice b sLen sCap)).run P w.drew=.ok olds.toArray w.drew)
  (hg:sCap < sLen + n) (h63:sLen + n <= 4611686018427387904) (hfit:(sLen + n) * i.bytes <= 140737488355328) :
  (Builtin.append_ #[t,xt] ty #[.slice b sLen sCap,x]).run P w =
   .ok (.slice (some ⟨w.heap.size,0,none⟩) (sLen + n) (grownCap w (sLen + n) sCap e))
    (w.drew.alloc (.cells (olds.toArray ++ news.toArray ++ Builtin.zeroCells z.cells (grownCap w (sLen + n) sCap e - (sLen + n))) e)):=by
 have hn:¬ (sLen + n <= sCap):=by omega
 have h63':¬ (9223372036854775807 < ((sLen) + (n:Int))):=by omega
 have h48':¬ (281474976710656 < Builtin.nextslicecap (sLen + n) sCap * i.bytes):=by
  have:=growslice_fits (need:=sLen + n) (old:=sCap) (bytes:=i.bytes) hg hfit;omega
 rcases hd with rfl | ⟨e',rfl⟩ <;>
 ·simp [Builtin.append_,run_underlying ht,run_underlying hxt,sizeOf,typeInfo,zeroValue,hi,hz,hlen,hn,h63',h48',Question.forced,hf,ho,newRow,grownCap];congr 2;apply Array.ext';simp
end
theorem grownCap_ge (w:World) (need old:Nat) (e:TypeId):need <= grownCap w need old e:=by simp [grownCap,Question.cut]
theorem X7z (z:Array Value) (n:Nat):(Builtin.zeroCells z n).size=n * z.size:=by simp [Builtin.zeroCells]
theorem Xdb {n bytes:Nat} (h:fits n bytes=true):n * bytes <= 140737488355328/\n <= 4611686018427387904:=by
 simp only [fits,Bool.and_eq_true] at h;simp_all
theorem X6v {size k:Nat} {x:Value} {m:Mem} {cs:List Value} {n:Nat} (hn:X2p x=some n) (hk:k <= n) (hstr:(∃ s,x=.string s)->size=1) (hg:X1n size k x m=some cs):cs.length=k * size:=by
 unfold X1n at hg;split at hg
 ·split at hg
  ·rw [Xn] at hg; unfold Xy at hg
   grind
  grind
 ·grind
 ·rename_i s;have h1:=hstr ⟨s,rfl⟩;simp only [X2p,Option.some.injEq] at hn;cases hg;simp_all
 ·cases hg
theorem Xlj {B0:Nat} {φ:Pmap} {m:Mem} {w w1:World} (h:Rel B0 φ m w) (ty:TypeId) (cs ccs:List Value) (hcs:VRels φ cs ccs) (C:Array Value) (hC:∀ (i:Nat) (v:Value),ccs[i]?=some v->C[i]?=some v)
  (tg:Option Nat) (htg:∀ t,tg=some t->ty=t / 2/\(t % 2=1->C.size=cs.length)/\True)
  (e:w1.heap=w.heap.push (.cells C ty (0,0))) (eo:w1.os=w.os) (et:w1.tape=w.tape) (eu:w1.output=w.output) :
  ∃ φ':Pmap,φ' m.next=some ⟨w.heap.size,0,0,C.size,0,false⟩/\Rel B0 φ' (m.push (.cells cs 0 0 false tg)) w1/\Stp φ m w φ' (m.push (.cells cs 0 0 false tg)) w1:=by
 have hfresh:∀ pl',φ m.next ≠ some pl':=fun pl' hx=>by have:=(h.blocks _ _ hx).1; omega
 have hle:φ.le (φ.upd m.next ⟨w.heap.size,0,0,C.size,0,false⟩):=fun b p hb=>⟨p,by rw [Pmap.upd_other _ (fun x=>hfresh p (by grind)),hb],.inl rfl⟩
 have hp:=X7i h (.cells C ty (0,0)) e eo et eu ⟨w.heap.size,0,0,C.size,0,false⟩ rfl (.cells cs 0 0 false tg)
  ⟨rfl,rfl,by simp,C,ty,0,0,by rw [e]; simp,rfl,fun i v _ hv=>by
   obtain ⟨cv,k1,k2⟩:=hcs.get hv;exact ⟨cv,by grind,k2.mono hle⟩,(fun _ i _ _ _=>by omega),fun t ht=>⟨(htg t ht).1,fun ho=>⟨rfl,rfl,(htg t ht).2.1 ho⟩,.inl rfl⟩⟩
 exact ⟨_,Pmap.upd_same _ _ _,hp.1,hp.2⟩
theorem Xga {B0:Nat} {φ:Pmap} {m:Mem} {w w1:World} (h:Rel B0 φ m w) (ty:TypeId) (cs ccs:List Value) (hcs:VRels φ cs ccs) (C:Array Value) (hC:∀ (i:Nat) (v:Value),ccs[i]?=some v->C[i]?=some v)
  (e:w1.heap=w.heap.push (.cells C ty (0,0))) (eo:w1.os=w.os) (et:w1.tape=w.tape) (eu:w1.output=w.output) :
  ∃ φ':Pmap,φ' m.next=some ⟨w.heap.size,0,0,C.size,0,false⟩/\Rel B0 φ' (m.push (.cells cs 0 0 false (some (2 * ty)))) w1/\Stp φ m w φ' (m.push (.cells cs 0 0 false (some (2 * ty)))) w1:=
 Xlj h ty cs ccs hcs C hC (some (2 * ty)) (fun t ht=>by grind) e eo et eu
theorem X9b {ty:Option Nat} {e t:Nat} (h:tyOf ty e=some t):ty=some t/\e=t:=by
 unfold tyOf at h;split at h
 ·rename_i u;cases hb:Nat.beq u e
  ·grind
  simp_all
 grind
theorem Xjc {P:Program} {B0:Nat} {φ:Pmap} {m m':Mem} {w:World} (h:Rel B0 φ m w) {s x cs cx v:Value} (hs:VRel φ s cs) (hx:VRel φ x cx)
  {t xt ty e:TypeId} {i:TypeInfo} {d:TypeDesc} {z:Value} (ht:P.underlying t=some (.slice e)) (hxt:P.underlying xt=some d) (hd:d=.string\/∃ e',d=.slice e') (hi:P.info? e=some i) (hz:i.zero=some z)
  (hzs:z.cells.size=i.size) (hstr:(∃ b,x=.string b)->i.size=1) (hg:X1o e i.size i.bytes s x m=some (v,m')) :
  ∃ cv w' φ',(Builtin.append_ #[t,xt] ty #[cs,cx]).run P w=.ok cv w'/\Rel B0 φ' m' w'/\VRel φ' v cv/\Stp φ m w φ' m' w':=by
 unfold X1o at hg;cases hn:X2p x with
 | none=>grind
 | some n =>
 rw [hn] at hg;simp only at hg;cases hnew:X1n i.size n x m with
 | none=>grind
 | some new =>
 rw [hnew] at hg;simp only at hg;obtain ⟨hlen,cnew,hcn,_,_,hfirst⟩:=X8x (P:=P) h hx hn (Nat.le_refl n) hnew;have hnl:=X6v hn (Nat.le_refl n) hstr hnew;have hcl:cnew.length=n * i.size:=by rw [<- hcn.length]; exact hnl
 by_cases hone:(new.all one && Nat.ble 1 i.size)=true
 case neg=>simp [hone] at hg
 simp only [hone,Bool.not_true,Bool.false_eq_true,if_false] at hg;simp only [Bool.and_eq_true] at hone;have hsz:1 <= i.size:=Nat.le_of_ble_eq_true hone.2;cases hs with
 | nilSlice =>
  simp only at hg;by_cases hn0:n=0
  ·subst hn0;simp at hg;obtain ⟨rfl,rfl⟩:=hg;exact ⟨_,w,φ,run_append_nothing w ht hxt hd hi cx _ (hlen w rfl) (hfirst w rfl),h,.nilSlice,.refl _ _ _⟩
  ·rw [if_neg hn0] at hg;split at hg
   case isFalse=>cases hg
   case isTrue hfit =>
   simp at hg;obtain ⟨rfl,rfl⟩:=hg;obtain ⟨hf1,hf2⟩:=Xdb hfit;have hrun:=X6q (ty:=ty) w ht hxt hd hi hz none 0 0 n cx [] _ (hlen w rfl) (hfirst _ rfl) (by rfl) (by omega) (by omega) (by grind);simp only [Nat.zero_add] at hrun;have hge:=grownCap_ge w n 0 e;obtain ⟨φ',k1,k2,k3⟩:=Xga (w1:=w.drew.alloc (.cells (#[] ++ cnew.toArray ++ Builtin.zeroCells z.cells (grownCap w n 0 e - n)) e)) h e new _ hcn _ (fun j u hj=>by
    grind) rfl rfl rfl rfl
   refine ⟨_,_,φ',hrun,k2,?_,k3⟩;refine .slice _ _ _ _ _ _ _ _ _ k1 hsz hge (by simp) (fun _=>⟨.inr ⟨rfl,by simp,by simp,?_⟩,fun hh=>by omega⟩);simp only [Array.size_append,List.size_toArray,X7z,hcl,hzs,Nat.zero_add,List.length_nil];rw [<- Nat.add_mul];exact Nat.mul_le_mul_right _ (by omega)
 | slice b o es len r B O cap pl hb hes hle hr hp =>
  simp only at hg;split at hg
  case h_2=>cases hg
  case h_1 c ver fro ro ty' hm =>
  split at hg
  case isTrue=>cases hg
  case isFalse hcond =>
  simp only [Bool.not_eq_true,Bool.not_eq_false',Bool.and_eq_true] at hcond;obtain ⟨⟨⟨hc1,hc2⟩,hc3⟩,hc4⟩:=hcond;have hc1:es=i.size:=by grind
  have hc2:r / 2=ver:=Nat.eq_of_beq_eq_true hc2;have hc3:=Nat.le_of_ble_eq_true hc3;obtain ⟨hf1,hf2⟩:=Xdb hc4;subst hc1;obtain ⟨_,o',h2,h3⟩:=h.blocks b pl hb;rw [hm] at h2;cases h2;have hver:pl.ver=ver:=h3.1;obtain ⟨hpl,hclip⟩:=hp (by omega);obtain ⟨_,hro,hlo,C,cty,flo,fhi,hC1,hC2,hC3,hC4⟩:=h3;by_cases hn0:n=0
  ·subst hn0;simp at hg;obtain ⟨rfl,rfl⟩:=hg;have hcnil:cnew=[]:=List.length_eq_zero_iff.1 (by omega);refine ⟨_,w,φ,X80 w ht hxt hd hi _ len cap 0 cx cnew (hlen w rfl) (hfirst w rfl) (by omega) (by rw [hcnil]; rfl),h,?_,.refl _ _ _⟩;exact .slice b o _ len r B O cap pl hb hes hle hr hp
  rw [if_neg hn0] at hg
  -- the old cells
  have holds:∃ colds,VRels φ ((c.drop o).take (len * i.size)) colds/\colds.length=len * i.size/\(Builtin.firstCells i.size len (.slice (some ⟨B,O,none⟩) len cap)).run P w.drew=.ok colds.toArray w.drew:=by
   have hg1:X1n i.size len (.slice (some ⟨b,o,some i.size⟩) len r) m=some ((c.drop o).take (len * i.size)):=by
    simp only [X1n,if_true,Xn,Xy,hm,hc2];simp only [Bool.and_eq_true,decide_eq_true_eq];rw [if_pos ⟨trivial,hc3⟩]
   obtain ⟨_,colds,q1,_,q3,q4⟩:=X8x (P:=P) h (.slice b o _ len r B O cap pl hb hes hle hr hp) rfl (Nat.le_refl len) hg1;exact ⟨colds,q1,q3 (fun _ hh=>by cases hh),q4 _ rfl⟩
  obtain ⟨colds,ho1,ho2,ho3⟩:=holds;have hoa:((c.drop o).take (len * i.size)).length=len * i.size:=by grind
  have hmore:∀ (hgt:cap < len + n),∃ w1,w1.heap=w.heap.push (.cells (colds.toArray ++ cnew.toArray ++ Builtin.zeroCells z.cells (grownCap w (len + n) cap e - (len + n))) e)/\w1.os=w.os/\w1.tape=w.tape/\w1.output=w.output /\
    (Builtin.append_ #[t,xt] ty #[.slice (some ⟨B,O,none⟩) len cap,cx]).run P w=.ok (.slice (some ⟨w.heap.size,0,none⟩) (len + n) (grownCap w (len + n) cap e)) w1:=fun hgt =>
   ⟨w.drew.alloc (.cells (colds.toArray ++ cnew.toArray ++ Builtin.zeroCells z.cells (grownCap w (len + n) cap e - (len + n))) e),rfl,rfl,rfl,rfl,X6q (ty:=ty) w ht hxt hd hi hz _ len cap n cx colds cnew (hlen w rfl) (hfirst _ rfl) ho3 hgt hf2 hf1⟩
  have hge:=grownCap_ge w (len + n) cap e;have hbig:(grownCap w (len + n) cap e) * i.size <= (colds.toArray ++ cnew.toArray ++ Builtin.zeroCells z.cells (grownCap w (len + n) cap e - (len + n))).size:=by
   simp only [Array.size_append,List.size_toArray,X7z,hcl,ho2,hzs];rw [<- Nat.add_mul,<- Nat.add_mul];exact Nat.mul_le_mul_right _ (by omega)
  have hcells:∀ (j:Nat) (u:Value),(colds ++ cnew)[j]?=some u->(colds.toArray ++ cnew.toArray ++ Builtin.zeroCells z.cells (grownCap w (len + n) cap e - (len + n)))[j]?=some u:=fun j u hj=>by
   grind
  split at hg
  ·-- clipped: a new block
   rename_i hcl1;simp at hg;obtain ⟨rfl,rfl⟩:=hg;obtain ⟨w1,e1,e2,e3,e4,hrun⟩:=hmore (by omega);obtain ⟨φ',k1,k2,k3⟩:=Xga h e _ _ (ho1.append hcn) _ hcells e1 e2 e3 e4;refine ⟨_,w1,φ',hrun,k2,?_,k3⟩;exact .slice _ _ _ _ _ _ _ _ _ k1 hsz hge (by simp) (fun _=>⟨.inr ⟨rfl,by simp,by simp,by grind⟩,fun hh=>by simp at hh⟩)
  ·rename_i hcl1;split at hg
   case isFalse=>cases hg
   case isTrue hfr =>
   simp only [Bool.and_eq_true,Bool.not_eq_true'] at hfr;obtain ⟨hfr,hrof⟩:=hfr;have hfr:=Nat.le_of_ble_eq_true hfr;subst hrof;simp at hg;obtain ⟨rfl,rfl⟩:=hg;by_cases hroom:len + n <= cap
   ·-- in place
    rcases hpl with hpl | ⟨hp1,hp2,hp3,hp4⟩
    ·omega
    subst hp1 hp3;have hpos:0 < n * i.size:=Nat.mul_pos (by omega) (by omega);have hcap:pl.cb + (o - pl.lo) + (len * i.size + n * i.size) <= C.size:=by
     rw [hC2,<- Nat.add_mul];have:=Nat.mul_le_mul_right i.size hroom;omega
    have hst:=run_storeCells_cells (P:=P) pl.blk (pl.cb + (o - pl.lo) + len * i.size) cnew 0 w
     (fun j hj=>by rw [Nat.add_zero,cell?_of hC1,Array.getElem?_eq_getElem (by omega)]; rfl)
     (fun j hj=>by
      rw [Nat.add_zero,frozen?_of hC1];have:=hC4.1 rfl (o + len * i.size + j) (by omega) (by omega) (by rw [<- hC2]; omega);simp only [Bool.and_eq_false_iff,decide_eq_false_iff_not];omega)
     (Xfj hcn hone.1)
    rw [Nat.add_zero] at hst;have hrun:=X80 (ty:=ty) w ht hxt hd hi _ len cap n cx _ (hlen w rfl) (hfirst w rfl) hroom (by rw [Addr.add_none]; exact hst);obtain ⟨C',k1,k2,k3⟩:=X5z _ cty _ cnew (pl.cb + (o - pl.lo) + len * i.size) w C hC1 (by omega);obtain ⟨r1,r2,r3,r4⟩:=X65 pl.blk cnew (pl.cb + (o - pl.lo) + len * i.size) w;have hle':φ.le (φ.upd b { pl with ver:=ver + 1 }):=fun y p hy=>by
     by_cases hyb:y=b
     ·subst hyb;rw [hb] at hy;cases hy;exact ⟨_,Pmap.upd_same _ _ _,.inr (by grind)⟩
     ·exact ⟨p,by rw [Pmap.upd_other _ hyb,hy],.inl rfl⟩
    have hput:=Xar (w1:=w.setCells pl.blk (pl.cb + (o - pl.lo) + len * i.size) cnew) h b pl { pl with ver:=ver + 1 } hb hro rfl (.inr (by grind)) r1 (fun Bx hBx=>X5t _ _ _ _ _ hBx) r2 r3 r4
     (.cells (c.take (o + len * i.size) ++ new) (ver + 1) fro false (tyOf ty' (2 * e))) (by
      refine ⟨rfl,hro,by grind,C',cty,flo,fhi,k1,by grind,fun j u hj1 hj2=>?_,hC4.1,fun t ht=>⟨(hC4.2 t (X9b ht).1).1,fun ho=>by have:=(X9b ht).2; omega,(hC4.2 t (X9b ht).1).2.2⟩⟩;simp only at hj1 ⊢;rw [k3];have htl:(c.take (o + len * i.size)).length=o + len * i.size:=by rw [List.length_take]; omega
      rw [List.getElem?_append] at hj2;by_cases hA:j < o + len * i.size
      ·rw [if_pos (by omega),List.getElem?_take,if_pos hA] at hj2;rw [if_neg (by omega)];obtain ⟨cv,q1,q2⟩:=hC3 j u hj1 hj2;exact ⟨cv,q1,q2.mono hle'⟩
      ·rw [if_neg (by omega),htl] at hj2;obtain ⟨cv,q1,q2⟩:=hcn.get hj2;have:j - (o + len * i.size) < cnew.length:=by
        rcases Nat.lt_or_ge (j - (o + len * i.size)) cnew.length with hh | hh
        ·exact hh
        ·grind
       rw [if_pos (by omega)];exact ⟨cv,by rw [<- q1]; congr 1; omega,q2.mono hle'⟩)
    refine ⟨_,_,_,hrun,hput.1,?_,hput.2⟩;refine .slice _ _ _ _ _ _ _ _ _ (Pmap.upd_same _ _ _) hsz hroom (by simp) (fun _=>⟨.inr ⟨rfl,hp2,rfl,hp4⟩,fun hh=>by omega⟩)
   ·-- moved
    obtain ⟨w1,e1,e2,e3,e4,hrun⟩:=hmore (by omega);have hle':φ.le (φ.upd b ⟨w.heap.size,o,0,(colds.toArray ++ cnew.toArray ++ Builtin.zeroCells z.cells (grownCap w (len + n) cap e - (len + n))).size,ver + 1,false⟩):=fun y p hy=>by
     by_cases hyb:y=b
     ·subst hyb;rw [hb] at hy;cases hy;exact ⟨_,Pmap.upd_same _ _ _,.inr (by grind)⟩
     ·exact ⟨p,by rw [Pmap.upd_other _ hyb,hy],.inl rfl⟩
    have hmv:=Xsu h _ e1 e2 e3 e4 b pl ⟨w.heap.size,o,0,(colds.toArray ++ cnew.toArray ++ Builtin.zeroCells z.cells (grownCap w (len + n) cap e - (len + n))).size,ver + 1,false⟩ hb rfl (by grind)
     (.cells (c.take (o + len * i.size) ++ new) (ver + 1) fro false (tyOf ty' (2 * e))) (by
      refine ⟨rfl,rfl,by simp; omega,_,e,0,0,by rw [e1]; simp,rfl,fun j u hj1 hj2=>?_,(fun _ j _ _ _=>by omega),fun t ht=>by have:=(X9b ht).2; exact ⟨by omega,fun ho=>by omega,.inl rfl⟩⟩;simp only at hj1 ⊢;have htl:(c.take (o + len * i.size)).length=o + len * i.size:=by rw [List.length_take]; omega
      have hju:((c.drop o).take (len * i.size) ++ new)[j - o]?=some u:=by
       rw [List.getElem?_append] at hj2 ⊢;by_cases hA:j < o + len * i.size
       ·grind
       ·grind
      obtain ⟨cv,q1,q2⟩:=(ho1.append hcn).get hju;exact ⟨cv,by grind,q2.mono hle'⟩)
    refine ⟨_,w1,_,hrun,hmv.1,?_,hmv.2⟩;refine .slice _ _ _ _ _ _ _ _ _ (Pmap.upd_same _ _ _) hsz hge (by simp) (fun _=>⟨.inr ⟨rfl,by simp,by simp,by simpa using hbig⟩,fun hh=>by omega⟩)
 | _=>cases hg
theorem Xmz {P:Program} {B0:Nat} {φ:Pmap} {m m':Mem} {w:World} (h:Rel B0 φ m w) {s x cs cx v:Value} (hs:VRel φ s cs) (hx:VRel φ x cx)
  {t xt ty e:TypeId} {i:TypeInfo} {d:TypeDesc} {z:Value} (ht:P.underlying t=some (.slice e)) (hxt:P.underlying xt=some d) (hd:d=.string\/∃ e',d=.slice e') (hi:P.info? e=some i) (hz:i.zero=some z)
  (hzs:z.cells.size=i.size) (hstr:(∃ b,x=.string b)->i.size=1) (hg:X13 e i.size i.bytes s x m=some (v,m')) :
  ∃ cv w' φ',(Builtin.append_ #[t,xt] ty #[cs,cx]).run P w=.ok cv w'/\Rel B0 φ' m' w'/\VRel φ' v cv/\Stp φ m w φ' m' w':=by
 obtain ⟨m2,h1,h2⟩:=X8v hg;obtain ⟨cv,w',φ',k1,k2,k3,k4⟩:=Xjc (ty:=ty) h hs hx ht hxt hd hi hz hzs hstr h1;exact ⟨cv,w',φ',k1,k2.congr h2,k3,k4.congr h2⟩
end Go.Ab
end
