/-
  An evaluator over abstract memories, and that what it answers the machine answers. No conditions.
-/
import Derived.Test.YteognfejlpbmoaaGreatDoorAb2
import Derived.LaidEql
import Derived.Scope
import Derived.Defers
set_option linter.unusedSimpArgs false
set_option linter.unusedVariables false

set_option maxRecDepth 100000
noncomputable section
namespace Go.Ab
def isConst (x:Operand):Bool:=match x with | .const _=>true | _=>false
theorem Xkq:∀ (a b:List UInt8),Xk6 a b=Op.bytesLess a b
 | [],[]=>rfl
 | _ :: _,[]=>rfl
 | [],_ :: _=>rfl
 | a :: x,b :: y=>by simp [Xk6,Op.bytesLess,Xkq]
theorem Xav {P:Program} {φ:Pmap} {w:World} (op:BinOp) (t:TypeId) (ox oy:Operand) {x y cx cy:Value} (hx:VRel φ x cx) (hy:VRel φ y cy) (hc:(isConst ox || isConst oy)=true\/¬ (x=.nilIface/\y=.nilIface))
  (hg:P.eqGuardType P.depth t=false\/(op ≠ .eql/\op ≠ .neq)\/∀ a,cx ≠ .agg a):(eqGuard op t ox oy cx cy).run P w=.ok () w:=by
 unfold eqGuard;by_cases hop:op=.eql\/op=.neq
 case neg =>
  cases op <;> first | trivial | rfl | simp
 cases hx with
 | nilIface =>
  cases hy with
  | nilIface =>
   rcases hc with hc | hc
   ·rcases hop with rfl | rfl <;> cases ox <;> cases oy <;> simp_all [isConst]
   ·grind
  | _=>rcases hop with rfl | rfl <;> simp
 | agg a a' ha =>
  cases hy with
  | agg b b' hb =>
   rcases hg with hg | hg | hg
   ·rcases hop with rfl | rfl <;> simp [hg]
   ·rcases hop with rfl | rfl
    ·trivial
    trivial
   ·grind
  | _=>rcases hop with rfl | rfl <;> simp
 | _=>rcases hop with rfl | rfl <;> simp
theorem X68 {P:Program} {w:World} {t:TypeId} {x y:Value} {b:Bool} (h:(Op.equal t x y).run P w=.ok b w)
  (hx:∀ k n,x ≠ .int k n) (hf:∀ k n,x ≠ .float k n) (hc:∀ k a b,x ≠ .complex k a b) (hs:∀ s,x ≠ .string s) :
  (binOp .eql t x y).run P w=.ok (.bool b) w/\(binOp .neq t x y).run P w=.ok (.bool (!b)) w:=by
 cases x <;> first
  | grind
  | grind
  | grind
  | grind
  | (constructor <;> (unfold binOp; cases y <;> simp [h]))
end Go.Ab
namespace Go.Ab
theorem Xwn {p:EqPl} {k:IntKind} {n:Int} {y:Value} {b:Bool} (h:aEq p (.int k n) y=some b):∃ k' n',y=.int k' n':=by
 cases p <;> cases y <;> first | exact ⟨_,_,rfl⟩ | (simp only [aEq,reduceCtorEq] at h)
theorem Xwk {p:EqPl} {s:ByteArray} {y:Value} {b:Bool} (h:aEq p (.string s) y=some b):∃ s',y=.string s':=by
 cases p <;> cases y <;> first | exact ⟨_,rfl⟩ | (simp only [aEq,reduceCtorEq] at h)
theorem Xpr {p:EqPl} {k:FloatKind} {n:Nat} {y:Value} {b:Bool} (h:aEq p (.float k n) y=some b):False:=by
 grind [aEq,reduceCtorEq]
set_option maxHeartbeats 1000000 in
theorem Xuy {P:Program} {φ:Pmap} {w:World} {fuel:Nat} (hf:fuel <= 10000) (op:BinOp) (t:TypeId) (ox oy:Operand) {x y cx cy v:Value} (hx:VRel φ x cx) (hy:VRel φ y cy)
  (hg:bin op (isConst ox || isConst oy) (!P.eqGuardType P.depth t) (X1j P fuel t) x y=some v) :
  ∃ cv,(do eqGuard op t ox oy cx cy; binOp op t cx cy:Sem Value).run P w=.ok cv w/\VRel φ v cv:=by
 have key:∀ {cv:Value},((isConst ox || isConst oy)=true\/¬ (x=.nilIface/\y=.nilIface))->(P.eqGuardType P.depth t=false\/(op ≠ .eql/\op ≠ .neq)\/∀ a,cx ≠ .agg a)->(binOp op t cx cy).run P w=.ok cv w ->
   (do eqGuard op t ox oy cx cy; binOp op t cx cy:Sem Value).run P w=.ok cv w:=fun h1 h2 h3=>by
  simp only [Sem.run_bind,Xav op t ox oy hx hy h1 h2,Result.andThen_ok,h3]
 rw [X1z] at hg; unfold binO at hg;split at hg
 ·rename_i k a k2 b;cases hx; cases hy;split at hg
  ·cases hg
  ·rename_i hb;cases hg;exact ⟨_,key (.inr (fun h=>by cases h.1)) (.inr (.inr (fun a h=>by cases h))) (by simp [binOp,Op.shift,hb]),.int _ _⟩
 ·rename_i k a k2 b;cases hx; cases hy;split at hg
  ·cases hg
  ·rename_i hb;cases hg;exact ⟨_,key (.inr (fun h=>by cases h.1)) (.inr (.inr (fun a h=>by cases h))) (by simp [binOp,Op.shift,hb]),.int _ _⟩
 ·rename_i k a k2 b hn1 hn2;cases hx; cases hy;split at hg
  ·cases hg
  ·rename_i hk;have hk:=Classical.not_not.1 hk;subst hk;cases op <;> simp only [reduceCtorEq] at hg
   case add=>cases hg; exact ⟨_,key (.inr (fun h=>by cases h.1)) (.inr (.inr (fun a h=>by cases h))) (by simp [binOp,Op.intArith]),.int _ _⟩
   case sub=>cases hg; exact ⟨_,key (.inr (fun h=>by cases h.1)) (.inr (.inr (fun a h=>by cases h))) (by simp [binOp,Op.intArith]),.int _ _⟩
   case mul=>cases hg; exact ⟨_,key (.inr (fun h=>by cases h.1)) (.inr (.inr (fun a h=>by cases h))) (by simp [binOp,Op.intArith]),.int _ _⟩
   case quo =>
    split at hg
    ·cases hg
    ·rename_i hb;cases hg; exact ⟨_,key (.inr (fun h=>by cases h.1)) (.inr (.inr (fun a h=>by cases h))) (by simp [binOp,Op.intDiv,hb]),.int _ _⟩
   case rem =>
    split at hg
    ·cases hg
    ·rename_i hb;cases hg; exact ⟨_,key (.inr (fun h=>by cases h.1)) (.inr (.inr (fun a h=>by cases h))) (by simp [binOp,Op.intDiv,hb]),.int _ _⟩
   case and=>cases hg; exact ⟨_,key (.inr (fun h=>by cases h.1)) (.inr (.inr (fun a h=>by cases h))) (by simp [binOp,Op.intBits]),.int _ _⟩
   case or=>cases hg; exact ⟨_,key (.inr (fun h=>by cases h.1)) (.inr (.inr (fun a h=>by cases h))) (by simp [binOp,Op.intBits]),.int _ _⟩
   case xor=>cases hg; exact ⟨_,key (.inr (fun h=>by cases h.1)) (.inr (.inr (fun a h=>by cases h))) (by simp [binOp,Op.intBits]),.int _ _⟩
   case andNot=>cases hg; exact ⟨_,key (.inr (fun h=>by cases h.1)) (.inr (.inr (fun a h=>by cases h))) (by simp [binOp,Op.intBits]),.int _ _⟩
   all_goals (cases hg; exact ⟨_,key (.inr (fun h=>by cases h.1)) (.inr (.inr (fun a h=>by cases h))) (by simp [binOp,Op.intCmp, ]),.bool _⟩)
 ·rename_i a b;cases hx; cases hy;cases op <;> simp only [reduceCtorEq] at hg
  case add =>
   split at hg
   ·rename_i hsz;cases hg;have:¬ (9223372036854775807 < ((a.size + b.size:Nat):Int)):=by omega
    exact ⟨_,key (.inr (fun h=>by cases h.1)) (.inr (.inr (fun a h=>by cases h))) (by simp only [binOp,Op.stringOp]; rw [if_neg (by simp_all)]; rfl),.string _⟩
   grind
  all_goals (cases hg; refine ⟨_,key (.inr (fun h=>by cases h.1)) (.inr (.inr (fun a h=>by cases h))) (by rfl),?_⟩; simp only [X3n,Xkq]; exact .bool _)
 all_goals (try (cases hg; done))
 all_goals
  rename_i hni hns;simp only [Option.ite_none_right_eq_some] at hg;obtain ⟨hc,hg⟩:=hg;simp only [Bool.and_eq_true,Bool.or_eq_true (isConst ox || isConst oy),Bool.or_eq_true (!P.eqGuardType _ t)] at hc;split at hg
  ·rename_i b hb;cases hg;have heq:=Xnp (w:=w) _ Op.maxDepth t _ _ _ _ _ hf hx hy hb;have hnn:(isConst ox || isConst oy)=true\/¬ (x=.nilIface/\y=.nilIface):=by
    rcases hc.2 with h | h
    ·grind
    ·refine .inr (fun hh=>?_);obtain ⟨rfl,rfl⟩:=hh;trivial
   have hpl:∀ k n,cx ≠ .int k n:=fun k n h=>by
    subst h;cases hx;obtain ⟨k',n',rfl⟩:=Xwn hb
    grind
   have hps:∀ s,cx ≠ .string s:=fun s h=>by
    subst h;cases hx;obtain ⟨s',rfl⟩:=Xwk hb
    grind
   have hpf:∀ k n,cx ≠ .float k n:=fun k n h=>by
    subst h;cases hx;exact Xpr hb
   have hpc:∀ k a c,cx ≠ .complex k a c:=fun k a c h=>by
    subst h;cases hx
   have hrun:=X68    (by unfold Op.equal; exact heq) hpl hpf hpc hps;have hgg:P.eqGuardType P.depth t=false\/∀ a,cx ≠ .agg a:=by
    rcases hc.1 with h | h
    ·grind
    ·right;intro a ha;subst ha;cases hx;trivial
   have hg3:∀ op,P.eqGuardType P.depth t=false\/(op ≠ BinOp.eql/\op ≠ BinOp.neq)\/∀ a,cx ≠ .agg a:=fun op=>by
    grind
   first
    | exact ⟨_,key hnn (hg3 _) hrun.1,.bool _⟩
    | exact ⟨_,key hnn (hg3 _) hrun.2,.bool _⟩
  grind
theorem Xzn {P:Program} {φ:Pmap} {w:World} (op:UnOp) {x cx v:Value} (hx:VRel φ x cx) (hg:un op x=some v):∃ cv,(Op.unary op cx).run P w=.ok cv w/\VRel φ v cv:=by
 unfold un at hg;split at hg
 ·cases hx; cases hg;exact ⟨_,by rfl,.int _ _⟩
 ·cases hx; cases hg;exact ⟨_,by rfl,.int _ _⟩
 ·cases hx; cases hg;exact ⟨_,by rfl,.bool _⟩
 grind
theorem Xe0 {P:Program} {fuel:Nat} {t:TypeId} (h:X1j P fuel t=.ptr):∃ e,P.underlying t=some (.pointer e):=by
 cases fuel with
 | zero=>cases h
 | succ d =>
  simp only [X1j] at h
  grind
theorem Xly {B0:Nat} {φ:Pmap} {m:Mem} {w:World} (hR:Rel B0 φ m w) {a b:Addr} {ca cb:Value} (ha:VRel φ (.pointer (some a)) ca) (hb:VRel φ (.pointer (some b)) cb) {r:Bool} (hg:Xj4 m a b=some r):ca=cb/\r=true/\∃ A,ca=.pointer (some A):=by
 unfold Xj4 at hg;split at hg
 ·rename_i hbl;split at hg
  ·rename_i c ver _ _ _ hm;split at hg
   ·rename_i hc;cases hg;simp at hc;obtain ⟨⟨h1,h2⟩,h3⟩:=hc;have hab:a=b:=by cases a; cases b; simp_all
    subst hab;cases ha with
    | ptr b' o r B O pl hb1 hr hp =>
    cases hb with
    | ptr _ _ _ B' O' pl' hb1' hr' hp' =>
    rw [hb1] at hb1';cases hb1';obtain ⟨_,o',g2,g3⟩:=hR.blocks b' pl hb1;simp only at hm h1;rw [hm] at g2;cases g2;have hv:r=pl.ver:=by simp_all [g3.1,h1]
    grind
   grind
  grind
 grind
theorem Xb7 {P:Program} (w:World) {tp te:TypeId} (a:Addr) (hp:P.underlying tp=some (.pointer te)) {j:TypeInfo} (hj:P.info? te=some j):(Op.equal tp (.pointer (some a)) (.pointer (some a))).run P w=.ok true w:=by
 have h:∀ d:Nat,(Op.equalIn (d + 1) tp (.pointer (some a)) (.pointer (some a))).run P w=.ok true w:=fun d=>by
  simp [Op.equalIn,run_underlying hp,sizeOf,typeInfo,hj,run_sameAddr_same]
 simp [Op.equal,Op.maxDepth,h _]
def Xbk (P:Program) (t:TypeId):Bool:=match P.underlying t with | some (.pointer e)=>(P.info? e).isSome | _=>false
theorem Xwz {P:Program} {B0:Nat} {φ:Pmap} {m:Mem} {w:World} (hR:Rel B0 φ m w) {fuel:Nat} (hf:fuel <= 10000) (op:BinOp) (t:TypeId) (hinf:Xbk P t=true) (ox oy:Operand) {x y cx cy v:Value} (hx:VRel φ x cx) (hy:VRel φ y cy)
  (hg:binP m op (isConst ox || isConst oy) (!P.eqGuardType P.depth t) (X1j P fuel t) x y=some v) :
  ∃ cv,(do eqGuard op t ox oy cx cy; binOp op t cx cy:Sem Value).run P w=.ok cv w/\VRel φ v cv:=by
 unfold binP at hg;split at hg
 ·rename_i a b hp;split at hg
  ·rename_i r hr;cases hg;obtain ⟨e1,e2,A,e3⟩:=Xly hR hx hy hr;subst e2;obtain ⟨e,he⟩:=Xe0 hp;obtain ⟨j,hj⟩:∃ j,P.info? e=some j:=by
    simp_all [Xbk, Option.isSome_iff_exists.1]
   refine ⟨.bool _,?_,.bool _⟩;have hgd:=Xav (P:=P) (w:=w) .eql t ox oy hx hy (.inr (fun h=>by cases h.1)) (.inr (.inr (fun a h=>by grind)));have:=X68 (Xb7 w A he hj) (by simp) (by simp) (by simp) (by simp);simp_all
  grind
 ·rename_i a b hp;split at hg
  ·rename_i r hr;cases hg;obtain ⟨e1,e2,A,e3⟩:=Xly hR hx hy hr;subst e2;obtain ⟨e,he⟩:=Xe0 hp;obtain ⟨j,hj⟩:∃ j,P.info? e=some j:=by
    simp_all [Xbk, Option.isSome_iff_exists.1]
   refine ⟨.bool false,?_,.bool _⟩;have hgd:=Xav (P:=P) (w:=w) .neq t ox oy hx hy (.inr (fun h=>by cases h.1)) (.inr (.inr (fun a h=>by grind)));have:=X68 (Xb7 w A he hj) (by simp) (by simp) (by simp) (by simp);simp_all
  grind
 ·exact Xuy hf _ t ox oy hx hy hg
end Go.Ab
namespace Go.Ab
abbrev Env:=Nat->Value
abbrev Tab:=FuncId->List Value->Mem->Option (Value × Mem)
abbrev Rs:=Value × Mem
def ob {α β:Type} (x:Option α) (k:α->Option β):Option β:=Option.rec none k x
theorem Xt1 {α β:Type} (x:Option α) (k:α->Option β):ob x k=match x with | some v=>k v | none=>none:=by cases x <;> rfl
def bm {α:Type} (x:Option Mem) (k:Mem->Option α):Option α:=match x with | some m=>k m | none=>none
def bp {α:Type} (x:Option (Value × Mem)) (k:Value->Mem->Option α):Option α:=Option.rec none (fun p=>Prod.rec k p) x
def upd (n:Nat) (ρ:Env) (d:Nat) (v:Value):Env:=fun i=>bif Nat.beq i d && Nat.blt d n then v else ρ i
def put (n:Nat) (ρ:Env) (dst:Option Nat) (v:Value):Env:=match dst with | some d=>upd n ρ d v | none=>ρ
def opd (ρ:Env) (x:Operand):Value:=
 match x with
 | .tmp t=>ρ t
 | .const v=>v
 | .global _=>u300
 | .func f=>.func (.func f) #[] #[]
def Xmf (x:Operand):Bool:=match x with | .const v=>X4j v | .global _=>false | _=>true
def ti (P:Program) (t:TypeId):Option (TypeInfo × TypeDesc):=
 match P.info? t with
 | some i=>match P.underlying t with | some d=>some (i,d) | none=>none
 | none=>none
def tz (P:Program) (t:TypeId):Option (TypeInfo × Value):=
 match P.info? t with
 | some i=>match i.zero with | some z=>if X4j z && Nat.beq z.cells.size i.size then some (i,z) else none | none=>none
 | none=>none
def Xci:Nat:=20
def Xs5 (kind:Nat) (x:Value) (m:Mem):Option Value:=
 match kind,x with
 | 0,.string s=>some (.int .i64 s.size)
 | 1,.slice _ n _=>some (.int .i64 n)
 | 2,.map r=>aLen (.map r) m
 | _,_=>none
def lenK:=@Xs5
theorem Xjb (kind:Nat) (x:Value) (m:Mem):lenK kind x m=Xs5 kind x m:=rfl
def pur (x:Option Value) (m:Mem):Option (Value × Mem):=Option.rec none (fun v=>some (v,m)) x
theorem Xxc (x:Option Value) (m:Mem):pur x m=match x with | some v=>some (v,m) | none=>none:=by cases x <;> rfl
def unt (x:Option Mem):Option (Value × Mem):=Option.rec none (fun m=>some (undef,m)) x
theorem Xxn (x:Option Mem):unt x=match x with | some m=>some (undef,m) | none=>none:=by cases x <;> rfl
def Xy4 (x y z:Value):Option Value:=match x,y,z with | .int k a,.int k' b,.int k2 c=>if k=k'/\k=k2 then some (.int k (if c < (if b < a then b else a) then c else (if b < a then b else a))) else none | _,_,_=>none
def X3u (P:Program) (b:Builtin) (tys:Array TypeId) (args:List Value) (m:Mem):Option (Value × Mem):=
 match b,args,tys.toList with
 | .len,[x],[t]=>match P.underlying t with
  | some .string=>pur (lenK 0 x m) m
  | some (.slice _)=>pur (lenK 1 x m) m
  | some (.map _ _)=>pur (lenK 2 x m) m
  | some (.array n _)=>some (.int .i64 n,m)
  | some (.pointer a)=>match P.underlying a with | some (.array n _)=>some (.int .i64 n,m) | _=>none
  | _=>none
 | .append,[s,x],[t,xt]=>match P.underlying t with
  | some (.slice e)=>match tz P e with
   | some (i,_)=>match P.underlying xt with
    | some .string=>if i.size=1 then X13 e i.size i.bytes s x m else none
    | some (.slice _)=>apS e i.size i.bytes s x m
    | _=>none
   | none=>none
  | _=>none
 | .copy,[s,x],[t,xt]=>match P.underlying t with
  | some (.slice e)=>match P.info? e with
   | some i=>match P.underlying xt with
    | some .string=>if i.size=1 then Xok i.size s x m else none
    | some (.slice _)=>cpS i.size s x m
    | _=>none
   | none=>none
  | _=>none
 | .unsafeSliceData,[x],_=>pur (Xa7 x) m
 | .unsafeString,[x,n],[pt,_]=>match P.underlying pt with
  | some (.pointer e)=>if P.cellsOf e=1 then X5w e x n m else none
  | _=>none
 | .max,[x,y],_=>pur (aMax x y) m
 | .min,[x,y],_=>pur (aMin x y) m
 | .min,[x,y,z],_=>pur (Xy4 x y z) m
 | .delete,[x,k],[t,_]=>match P.underlying t with
  | some (.map kt _)=>match P.underlying kt with
   | some _=>unt (Xir (X1j P Xci kt) x k m)
   | none=>none
  | _=>none
 | .clear,[x],[t]=>match P.underlying t with
  | some (.slice e)=>match tz P e with | some (i,z)=>unt (Xpj z.cells.toList i.size x m) | none=>none
  | _=>none
 | _,_,_=>none
def Xwb (P:Program) (t:TypeId):Option (Nat × TypeId):=
 match P.underlying t with
 | some (.array n e)=>some (n,e)
 | some (.pointer a)=>match P.underlying a with | some (.array n e)=>some (n,e) | _=>none
 | _=>none
def Xhm (P:Program) (f:Operand->Value) (m:Mem) (op:Op):Option (Value × Mem):=
 match op with
 | .mapEntry t x k=>match P.underlying t with
  | some (.map kt e)=>match tz P e with
   | some (_,z)=>match P.underlying kt with
    | some _=>Xd0 (X1j P Xci kt) z (f x) (f k) m
    | none=>none
   | none=>none
  | _=>none
 | .entryStore _ x s v=>unt (X94 (f x) (f s) (f v) m)
 | .entry x=>pur (Xny (f x) m) m
 | _=>none
def evOp (P:Program) (f:Operand->Value) (m:Mem) (o:Oper):Option (Value × Mem):=
 match o.op with
 | .move x=>some (f x,m)
 | .assign x=>some (f x,m)
 | .pick c a b=>pk (f c) (f a) (f b) m
 | .alloc t=>match tz P t with | some (_,z)=>some (aNew t z.cells.toList m) | none=>none
 | .box t x=>some (aNew t (f x).cells.toList m)
 | .build t parts=>match tz P t with
  | some (_,z)=>match P.underlying t with
   | some (.struct fs)=>match placesOf P fs with
    | some pls=>pur (Xg z.cells.toList pls (parts.toList.map fun (i,x)=>(i,f x))) m
    | none=>none
   | some (.array _ e)=>match P.info? e with
    | some ie=>pur (Xd6 z.cells.toList ie.size (parts.toList.map fun (i,x)=>(i,f x))) m
    | none=>none
   | _=>none
  | none=>none
 | .buildSlice t len parts=>match P.underlying t with
  | some (.slice e)=>match tz P e with
   | some (i,z)=>if Nat.ble (len * i.size) 16777216 then X5 e z.cells.toList i.size len (parts.toList.map fun (i,x)=>(i,f x)) m else none
   | none=>none
  | _=>none
 | .load t a=>match ti P t with | some (i,d)=>pur (X8 (X5c d) i.size (f a) m) m | none=>none
 | .store t a v=>match P.info? t with | some i=>unt (Xd i.size (f a) (f v) m) | none=>none
 | .nilCheck x=>pur (X21 (f x)) m
 | .binOp op t x y _=>bif Xbk P t then pur (binP m op (isConst x || isConst y) (!P.eqGuardType P.depth t) (X1j P Xci t) (f x) (f y)) m else pur (bin op (isConst x || isConst y) (!P.eqGuardType P.depth t) (X1j P Xci t) (f x) (f y)) m
 | .unOp op _ x=>pur (un op (f x)) m
 | .convert s d x=>conv (Xc5 P s d) (f x) m
 | .makeInterface t x=>match P.underlying t with | some (.interface _)=>none | some _=>some (.iface t (f x),m) | none=>none
 | .makeFunc fn first cap=>some (.func fn ⟨first.toList.map f⟩ ⟨cap.toList.map f⟩,m)
 | .makeMap _ r=>match r with | none=>some (X7e m) | some _=>none
 | .makeSlice t l c=>match P.underlying t with
  | some (.slice e)=>match tz P e with
   | some (i,z)=>X3j e z.cells.toList i.size i.bytes (f l) (f c) m
   | none=>none
  | _=>none
 | .slice t x lo hi mx=>match P.underlying t with
  | some .string=>match mx with | none=>pur (Xw (f x) (lo.map f) (hi.map f)) m | some _=>none
  | some (.slice e)=>match P.info? e with
   | some i=>match mx with
    | none=>pur (X7a i.size (f x) (lo.map f) (hi.map f)) m
    | some k=>match hi with | some h=>pur (Xcm i.size (f x) (lo.map f) (f h) (f k)) m | none=>none
   | none=>none
  | _=>match Xwb P t with
   | some (n,e)=>match P.info? e with
    | some i=>match mx with | none=>pur (X3v n i.size (f x) (lo.map f) (hi.map f) m) m | some _=>none
    | none=>none
   | none=>none
 | .fieldAddr t x k=>match P.underlying t with
  | some (.struct fs)=>match fs[k]? with
   | some fl=>match P.info? fl.type with
    | some i=>if Nat.ble 1 i.size then pur (Xx fl.offset (f x)) m else none
    | none=>none
   | none=>none
  | _=>none
 | .field t x k=>match P.underlying t with
  | some (.struct fs)=>match fs[k]? with
   | some fl=>match ti P fl.type with
    | some (i,d)=>pur (Xqa (X5c d) i.size fl.offset (f x)) m
    | none=>none
   | none=>none
  | _=>none
 | .indexAddr t x i=>match P.underlying t with
  | some (.array n e)=>match P.info? e with | some ie=>pur (X20 n ie.size (f x) (f i)) m | none=>none
  | some (.slice e)=>match P.info? e with | some ie=>pur (Xa ie.size (f x) (f i)) m | none=>none
  | _=>none
 | .index t x i=>match P.underlying t with
  | some (.array n e)=>match ti P e with | some (ie,d)=>pur (Xby n ie.size (X5c d) (f x) (f i)) m | none=>none
  | some .string=>pur (Xe (f x) (f i)) m
  | _=>none
 | .lookup t x k ok=>match P.underlying t with
  | some (.map kt e)=>match tz P e with
   | some (_,z)=>match P.underlying kt with
    | some _=>pur (X5u (X1j P Xci kt) z ok (f x) (f k) m) m
    | none=>none
   | none=>none
  | _=>none
 | .mapUpdate t x k v=>match P.underlying t with
  | some (.map kt _)=>match P.underlying kt with
   | some _=>unt (X31 (X1j P Xci kt) (f x) (f k) (f v) m)
   | none=>none
  | _=>none
 | .insert t x k v=>match P.underlying t with
  | some (.map kt _)=>match P.underlying kt with
   | some _=>unt (X31 (X1j P Xci kt) (f x) (f k) (f v) m)
   | none=>none
  | _=>none
 | .range t x=>match P.underlying t with | some .string=>X3w (f x) m | some (.map _ _)=>Xdl (f x) m | _=>none
 | .next x true=>X45 (f x) m
 | .next x false=>Xgn (f x) m
 | .extract x i=>pur (X3m (f x) i) m
 | .call { callee:=.builtin b,args,argTypes }=>X3u P b argTypes (args.toList.map f) m
 | op=>Xhm P f m op
def X52 (g:Tab) (fv:Value) (args:List Value) (m:Mem):Option (Value × Mem):=
 match fv with
 | .func (.func f) first cap=>g f (first.toList ++ args ++ cap.toList) m
 | _=>none
def opK {α:Type} (P:Program) (x:Option (Value × Mem)) (f:Operand->Value) (m:Mem) (o:Oper) (k:Value->Mem->Option α):Option α:=
 match o.op with
 | .move y=>k (f y) m
 | .assign y=>k (f y) m
 | .pick c a b=>pkB (f c) (f a) (f b) m k
 | .makeInterface t y=>match P.underlying t with | some (.interface _)=>none | some _=>k (.iface t (f y)) m | none=>none
 | .makeFunc fn a c=>k (.func fn ⟨a.toList.map f⟩ ⟨c.toList.map f⟩) m
 | _=>bp x k
def X6j (P:Program) (g:Tab) (f:Operand->Value) (m:Mem) (o:Oper):Option (Value × Mem):=
 match o.op with
 | .call { callee:=.value x,args,.. }=>X52 g (f x) (args.toList.map f) m
 | _=>evOp P f m o
theorem Xkf {α:Type} (P:Program) (f:Operand->Value) (m:Mem) (o:Oper) (k:Value->Mem->Option α):opK P (evOp P f m o) f m o k=bp (evOp P f m o) k:=by
 obtain ⟨dst,op,ty,pos,after,guard⟩:=o;cases op <;> first | rfl | skip
 case pick c a b =>
  show pkB _ _ _ m k=bp (pk _ _ _ m) k;rw [Xy3]; unfold pk;split <;> rfl
 case makeInterface t y =>
  simp only [opK,evOp];split <;> rfl
theorem Xgu {α:Type} (P:Program) (g:Tab) (f:Operand->Value) (m:Mem) (o:Oper) (k:Value->Mem->Option α):opK P (X6j P g f m o) f m o k=bp (X6j P g f m o) k:=by
 have e:(∀ x args tys,o.op ≠ .call ⟨.value x,args,tys⟩)->X6j P g f m o=evOp P f m o:=fun h=>by
  unfold X6j;simp
 by_cases h:∃ x args tys,o.op=.call ⟨.value x,args,tys⟩
 ·obtain ⟨x,args,tys,h⟩:=h;unfold opK;rw [h]
 ·rw [e (fun x args tys hh=>h ⟨x,args,tys,hh⟩)];exact Xkf P f m o k
end Go.Ab
namespace Go.Ab
theorem Xl {x:Option Value} {m:Mem} {v:Value} {m':Mem} (h:pur x m=some (v,m')):x=some v/\m'=m:=by
 cases x with
 | none=>cases h
 | some u=>simp only [Xxc,Option.some.injEq,Prod.mk.injEq] at h; grind
theorem X7f {x:Option Mem} {v:Value} {m':Mem} (h:unt x=some (v,m')):x=some m'/\v=undef:=by
 cases x with
 | none=>cases h
 | some u=>simp only [Xxn,Option.some.injEq,Prod.mk.injEq] at h; grind
theorem Xfl {P:Program} {t:TypeId} {i:TypeInfo} {d:TypeDesc} (h:ti P t=some (i,d)):P.info? t=some i/\P.underlying t=some d:=by
 unfold ti at h
 grind
theorem X5l {P:Program} {t:TypeId} {i:TypeInfo} {z:Value} (h:tz P t=some (i,z)):P.info? t=some i/\i.zero=some z/\X4j z=true/\z.cells.size=i.size:=by
 unfold tz at h;split at h
 ·rename_i i' hi;split at h
  ·rename_i z' hz;split at h
   ·simp_all
   grind
  grind
 grind
def Done (P:Program) (cf:Operand->Value) (o:Oper) (w:World) (cv:Value) (w':World):Prop:=
 (execOp cf o).run P w=.ok (.value cv) w'\/(cv=undef/\(execOp cf o).run P w=.ok .skip w')
theorem X2u {φ:Pmap}:VRel φ undef undef:=.tuple _ _ .nil
theorem Xc3 {φ:Pmap} {f cf:Operand->Value}:∀ (l:List Operand),(∀ x ∈ l,VRel φ (f x) (cf x))->VRels φ (l.map f) (l.map cf)
 | [],_=>.nil
 | x :: l,h=>.cons _ _ _ _ (h x (by simp)) (Xc3 l (fun y hy=>h y (by simp [hy])))
theorem Xap {φ:Pmap} {f g:Operand->Value}:∀ (ps:List (Nat × Operand)),(∀ x ∈ ps.map (·.2),VRel φ (f x) (g x))->X4p φ (ps.map fun (i,x)=>(i,f x)) (ps.map fun (i,x)=>(i,g x))
 | [],_=>.nil
 | (i,x) :: ps,h=>.cons i _ _ _ _ (h x (by simp)) (Xap ps (fun y hy=>h y (by grind)))
theorem orel {φ:Pmap} {f g:Operand->Value} (o:Option Operand) (h:∀ x,o=some x->VRel φ (f x) (g x)):ORel φ (o.map f) (o.map g):=by
 cases o with
 | none=>exact .none
 | some x=>exact .some _ _ (h x rfl)
theorem Xis {P:Program} {φ:Pmap} {w:World} {cf:Operand->Value} {o:Oper} {y:Operand} (ho:o.op=.nilCheck y) {x v:Value} (hx:VRel φ x (cf y)) (hg:X21 x=some v):∃ cv,(execOp cf o).run P w=.ok (.value cv) w/\VRel φ v cv:=by
 rw [Xhb] at hg; unfold Xae at hg;generalize hc:cf y=c at hx;refine ⟨c,?_,?_⟩
 ·unfold execOp;rw [ho];simp only [hc];cases hx <;> (try simp only [reduceCtorEq] at hg) <;> (try rfl)
  rename_i f a cc a' c' ha hcc;cases f <;> first | rfl | trivial
 ·grind
end Go.Ab
namespace Go.Ab
theorem Xj1 {P:Program} {B0:Nat} {φ:Pmap} {m:Mem} {w:World} (hR:Rel B0 φ m w) {t ty:TypeId} {k:Nat} {d:TypeDesc} (ht:P.underlying t=some d) (hk:(k=0/\d=.string)\/(k=1/\∃ e,d=.slice e)\/(k=2/\∃ a e,d=.map a e))
  {x cx v:Value} (hx:VRel φ x cx) (hg:lenK k x m=some v):∃ cv,(Builtin.len_ #[t] ty #[cx]).run P w=.ok cv w/\VRel φ v cv:=by
 have hd:d=.string\/(∃ e,d=.slice e)\/(∃ k e,d=.map k e):=by
  grind
 rw [Xjb] at hg; unfold Xs5 at hg;split at hg
 ·rcases hk with ⟨_,rfl⟩ | ⟨h,_⟩ | ⟨h,_⟩
  ·exact Xog hR ht hd hx rfl hg
  ·cases h
  grind
 ·rcases hk with ⟨h,_⟩ | ⟨_,e,rfl⟩ | ⟨h,_⟩
  ·cases h
  ·exact Xog hR ht hd hx rfl hg
  grind
 ·rcases hk with ⟨h,_⟩ | ⟨h,_⟩ | ⟨_,a,e,rfl⟩
  ·cases h
  ·cases h
  ·exact Xog hR ht hd hx rfl hg
 ·cases hg
theorem VRels.one {φ:Pmap} {x:Value} {l:List Value} (h:VRels φ [x] l):∃ cx,l=[cx]/\VRel φ x cx:=by
 cases h with
 | cons _ v' _ l' hv hl=>cases hl; exact ⟨v',rfl,hv⟩
theorem VRels.two {φ:Pmap} {x y:Value} {l:List Value} (h:VRels φ [x,y] l):∃ cx cy,l=[cx,cy]/\VRel φ x cx/\VRel φ y cy:=by
 cases h with
 | cons _ v' _ l' hv hl =>
  obtain ⟨cy,rfl,hy⟩:=hl.one;exact ⟨v',cy,rfl,hv,hy⟩
theorem Xia {P:Program} {B0:Nat} {φ:Pmap} {m m':Mem} {w:World} (hR:Rel B0 φ m w) {b:Builtin} {tys:Array TypeId} {ty:TypeId} {cs:Array Bool} {args cargs:List Value} {v:Value} (ha:VRels φ args cargs)
  (hg:X3u P b tys args m=some (v,m')) :
  ∃ cv w' φ',(builtin b tys ty cs cargs.toArray).run P w=.ok (.value cv) w'/\Rel B0 φ' m' w'/\VRel φ' v cv/\Stp φ m w φ' m' w':=by
 unfold X3u at hg;split at hg
 ·rename_i x t htys;have htys:tys=#[t]:=by apply Array.ext'; exact htys
  subst htys;obtain ⟨cx,rfl,hx⟩:=ha.one;have fin:∀ {cv:Value},(Builtin.len_ #[t] ty #[cx]).run P w=.ok cv w->VRel φ v cv->m'=m->∃ cv w' φ',(builtin .len #[t] ty cs #[cx]).run P w=.ok (.value cv) w'/\Rel B0 φ' m' w'/\VRel φ' v cv/\Stp φ m w φ' m' w':=fun {cv} h1 h2 h3=>by
   subst h3;exact ⟨cv,w,φ,by simp [builtin,h1],hR,h2,.refl _ _ _⟩
  split at hg
  ·rename_i ht;obtain ⟨h1,h2⟩:=Xl hg;obtain ⟨cv,k1,k2⟩:=Xj1 (ty:=ty) hR ht (.inl ⟨rfl,rfl⟩) hx h1
   grind
  ·rename_i e ht;obtain ⟨h1,h2⟩:=Xl hg;obtain ⟨cv,k1,k2⟩:=Xj1 (ty:=ty) hR ht (.inr (.inl ⟨rfl,e,rfl⟩)) hx h1
   grind
  ·rename_i a e ht;obtain ⟨h1,h2⟩:=Xl hg;obtain ⟨cv,k1,k2⟩:=Xj1 (ty:=ty) hR ht (.inr (.inr ⟨rfl,a,e,rfl⟩)) hx h1
   grind
  ·rename_i n e ht;simp at hg;obtain ⟨rfl,rfl⟩:=hg;refine fin ?_ (.int _ _) rfl;simp [Builtin.len_,run_underlying ht,goInt]
  ·rename_i a ht;split at hg
   ·rename_i n e hta;simp at hg;obtain ⟨rfl,rfl⟩:=hg;refine fin ?_ (.int _ _) rfl;simp [Builtin.len_,run_underlying ht,run_underlying hta,goInt]
   grind
  ·cases hg
 ·rename_i s x t xt htys;have htys:tys=#[t,xt]:=by apply Array.ext'; exact htys
  subst htys;obtain ⟨cs',cx,rfl,hs,hx⟩:=ha.two;split at hg
  ·rename_i e ht;split at hg
   ·rename_i i z htz;obtain ⟨q1,q2,q3,q4⟩:=X5l htz;have fin:∀ d,P.underlying xt=some d->(d=.string\/∃ e',d=.slice e')->((∃ b,x=.string b)->i.size=1)->X13 e i.size i.bytes s x m=some (v,m') ->
      ∃ cv w' φ',(builtin .append #[t,xt] ty cs #[cs',cx]).run P w=.ok (.value cv) w'/\Rel B0 φ' m' w'/\VRel φ' v cv/\Stp φ m w φ' m' w':=fun d h1 h2 h3 h4=>by
     obtain ⟨cv,w',φ',k1,k2,k3,k4⟩:=Xmz (ty:=ty) hR hs hx ht h1 h2 q1 q2 q4 h3 h4;exact ⟨cv,w',φ',by simp [builtin,k1],k2,k3,k4⟩
    split at hg
    ·grind
    ·rename_i e' hxt;unfold apS at hg;split at hg
     ·cases hg
     simp_all
    grind
   grind
  ·cases hg
 ·rename_i s x t xt htys;have htys:tys=#[t,xt]:=by apply Array.ext'; exact htys
  subst htys;obtain ⟨cs',cx,rfl,hs,hx⟩:=ha.two;split at hg
  ·rename_i e ht;split at hg
   ·rename_i i hi;have fin:((∃ b,x=.string b)->i.size=1)->Xok i.size s x m=some (v,m') ->
      ∃ cv w' φ',(builtin .copy #[t,xt] ty cs #[cs',cx]).run P w=.ok (.value cv) w'/\Rel B0 φ' m' w'/\VRel φ' v cv/\Stp φ m w φ' m' w':=fun h3 h4=>by
     obtain ⟨cv,w',φ',k1,k2,k3,k4⟩:=Xwq (xt:=xt) (ty:=ty) hR ht hi hs hx h3 h4;exact ⟨cv,w',φ',by simp [builtin,k1],k2,k3,k4⟩
    split at hg
    ·grind
    ·unfold cpS at hg;split at hg
     ·cases hg
     simp_all
    grind
   grind
  grind
 ·rename_i x htys;obtain ⟨cx,rfl,hx⟩:=ha.one;obtain ⟨h1,rfl⟩:=Xl hg;obtain ⟨cv,k1,k2⟩:=Xho (P:=P) (ts:=tys) (ty:=ty) hR hx h1;exact ⟨cv,w,φ,by simp [builtin,k1],hR,k2,.refl _ _ _⟩
 ·rename_i x n pt it htys;have htys:tys=#[pt,it]:=by apply Array.ext'; exact htys
  subst htys;obtain ⟨cx,cn,rfl,hx,hn⟩:=ha.two;split at hg
  ·rename_i e hpt;split at hg
   ·rename_i hc;obtain ⟨cv,w',φ',k1,k2,k3,k4⟩:=Xc1 (it:=it) (ty:=ty) hR hpt hc hx hn hg;exact ⟨cv,w',φ',by simp [builtin,k1],k2,k3,k4⟩
   grind
  grind
 ·rename_i x y htys;obtain ⟨cx,cy,rfl,hx,hy⟩:=ha.two;obtain ⟨h1,rfl⟩:=Xl hg;unfold aMax at h1;split at h1
  ·cases hx; cases hy;split at h1
   ·rename_i hk;subst hk;cases h1;exact ⟨_,w,φ,by rfl,hR,.int _ _,.refl _ _ _⟩
   grind
  grind
 ·rename_i x y htys;obtain ⟨cx,cy,rfl,hx,hy⟩:=ha.two;obtain ⟨h1,rfl⟩:=Xl hg;unfold aMin at h1;split at h1
  ·cases hx; cases hy;split at h1
   ·rename_i hk;subst hk;cases h1;exact ⟨_,w,φ,by rfl,hR,.int _ _,.refl _ _ _⟩
   grind
  grind
 ·rename_i x y z htys;cases ha with
  | cons _ cx _ l1 hx ha =>
  cases ha with
  | cons _ cy _ l2 hy ha =>
  cases ha with
  | cons _ cz _ l3 hz ha =>
  cases ha;obtain ⟨h1,rfl⟩:=Xl hg;unfold Xy4 at h1;split at h1
  ·cases hx; cases hy; cases hz;split at h1
   ·rename_i hk;obtain ⟨rfl,rfl⟩:=hk;cases h1;exact ⟨_,w,φ,by rfl,hR,.int _ _,.refl _ _ _⟩
   grind
  grind
 ·rename_i x k t t2 htys;have htys:tys=#[t,t2]:=by grind
  subst htys;obtain ⟨cx,ck,rfl,hx,hk⟩:=ha.two;split at hg
  ·rename_i kt e ht;split at hg
   ·rename_i D hD;obtain ⟨h1,rfl⟩:=X7f hg;obtain ⟨w',φ',k1,k2,k3⟩:=Xp3 (t2:=t2) (ty:=ty) hR (by decide) ht hD hx hk h1;exact ⟨.tuple #[],w',φ',by simp [builtin,k1],k2,X2u,k3⟩
   grind
  grind
 ·rename_i x t htys;have htys:tys=#[t]:=by grind
  subst htys;obtain ⟨cx,rfl,hx⟩:=ha.one;split at hg
  ·rename_i e ht;split at hg
   ·rename_i i z hz;obtain ⟨q1,q2,q3,_⟩:=X5l hz;obtain ⟨h1,rfl⟩:=X7f hg;obtain ⟨w',φ',k1,k2,k3⟩:=Xrq (ty:=ty) hR ht q1 q2 q3 hx h1;exact ⟨.tuple #[],w',φ',by simp [builtin,k1],k2,X2u,k3⟩
   grind
  grind
 grind
end Go.Ab
namespace Go.Ab
theorem Xn8 {P:Program} {t:TypeId} {n:Nat} {e:TypeId} (h:Xwb P t=some (n,e)):P.underlying t=some (.array n e)\/∃ a,P.underlying t=some (.pointer a)/\P.underlying a=some (.array n e):=by
 unfold Xwb at h;split at h
 ·rename_i ht; cases h; exact .inl ht
 ·rename_i a ht;split at h
  ·rename_i hta; cases h; exact .inr ⟨a,ht,hta⟩
  ·cases h
 ·cases h
set_option maxHeartbeats 2000000 in
theorem Xiu {P:Program} {B0:Nat} {φ:Pmap} {m m':Mem} {w:World} (hR:Rel B0 φ m w) {f cf:Operand->Value} (o:Oper) (hf:∀ x ∈ o.op.operands.toList,VRel φ (f x) (cf x)) {v:Value}
  (hg:evOp P f m o=some (v,m')):∃ cv w' φ',Done P cf o w cv w'/\Rel B0 φ' m' w'/\VRel φ' v cv/\Stp φ m w φ' m' w':=by
 obtain ⟨dst,op,ty,pos,after,guard⟩:=o;have pure_:∀ {cv:Value},(execOp cf ⟨dst,op,ty,pos,after,guard⟩).run P w=.ok (.value cv) w->VRel φ v cv->m'=m->∃ cv w' φ',Done P cf ⟨dst,op,ty,pos,after,guard⟩ w cv w'/\Rel B0 φ' m' w'/\VRel φ' v cv/\Stp φ m w φ' m' w':=fun {cv} h1 h2 h3=>by
  subst h3;exact ⟨cv,w,φ,.inl h1,hR,h2,.refl _ _ _⟩
 unfold evOp at hg;cases op <;> simp only at hg
 case move x =>
  simp only [Option.some.injEq,Prod.mk.injEq] at hg;obtain ⟨rfl,rfl⟩:=hg;exact pure_ (by simp [execOp]) (hf x (by simp [Op.operands])) rfl
 case assign x =>
  simp at hg;obtain ⟨rfl,rfl⟩:=hg;exact pure_ (by simp [execOp]) (hf x (by simp [Op.operands])) rfl
 case pick c a b =>
  have hc:=hf c (by simp [Op.operands]);have ha:=hf a (by simp [Op.operands]);have hb:=hf b (by simp [Op.operands]);unfold pk at hg;split at hg
  ·rename_i hfc;rw [hfc] at hc;simp at hg;obtain ⟨rfl,rfl⟩:=hg;generalize hcc:cf c=cc at hc;cases hc;exact pure_ (by simp [execOp,hcc,asBool]) ha rfl
  ·rename_i hfc;rw [hfc] at hc;simp at hg;obtain ⟨rfl,rfl⟩:=hg;generalize hcc:cf c=cc at hc;cases hc;exact pure_ (by simp [execOp,hcc,asBool]) hb rfl
  grind
 case alloc t =>
  split at hg
  ·rename_i i z htz;obtain ⟨q1,q2,q3,q4⟩:=X5l htz;cases hg;obtain ⟨cv,w',φ',k1,k2,k3,k4⟩:=Xsn hR q1 q2 q3;exact ⟨cv,w',φ',.inl (by simp [execOp,k1]),k2,k3,k4⟩
  grind
 case box t x =>
  cases hg;obtain ⟨cv,w',φ',k1,k2,k3,k4⟩:=Xyy (P:=P) hR (t:=t) (hf x (by simp [Op.operands]));exact ⟨cv,w',φ',.inl (by simp [execOp,k1]),k2,k3,k4⟩
 case build t parts =>
  have hps:=Xap  parts.toList (fun x hx=>hf x (by simp [Op.operands,hx]));have hmap:(parts.map fun (i,x)=>(i,cf x))=(parts.toList.map fun (i,x)=>(i,cf x)).toArray:=by apply Array.ext'; simp
  split at hg
  ·rename_i i z htz;obtain ⟨q1,q2,q3,q4⟩:=X5l htz;split at hg
   ·rename_i fs ht;split at hg
    ·rename_i pls hpl;obtain ⟨h1,h2⟩:=Xl hg;obtain ⟨cv,k1,k2⟩:=Xca (w:=w) ht q1 q2 q3 hpl hps h1;exact pure_ (by simp only [execOp,hmap,Sem.run_bind,k1,Result.andThen_ok,Sem.run_pure]) k2 h2
    grind
   ·rename_i n e ht;split at hg
    ·rename_i ie hie;obtain ⟨h1,h2⟩:=Xl hg;obtain ⟨cv,k1,k2⟩:=Xdt (w:=w) ht q1 hie q2 q3 hps h1;exact pure_ (by simp only [execOp,hmap,Sem.run_bind,k1,Result.andThen_ok,Sem.run_pure]) k2 h2
    grind
   grind
  grind
 case buildSlice t len parts =>
  have hps:=Xap (φ:=φ) (f:=f) (g:=cf) parts.toList (fun x hx=>hf x (by simp [Op.operands,hx]));have hmap:(parts.map fun (i,x)=>(i,cf x))=(parts.toList.map fun (i,x)=>(i,cf x)).toArray:=by apply Array.ext'; simp
  split at hg
  ·rename_i e ht;split at hg
   ·rename_i i z htz;obtain ⟨q1,q2,q3,q4⟩:=X5l htz;split at hg
    ·rename_i hsm;obtain ⟨cv,w',φ',k1,k2,k3,k4⟩:=Xfa hR ht q1 q2 q3 q4 len (Nat.le_of_ble_eq_true hsm) hps hg;exact ⟨cv,w',φ',.inl (by simp only [execOp,hmap,Sem.run_bind,k1,Result.andThen_ok,Sem.run_pure]),k2,k3,k4⟩
    grind
   grind
  grind
 case load t a =>
  split at hg
  ·rename_i i d hti;obtain ⟨q1,q2⟩:=Xfl hti;obtain ⟨h1,h2⟩:=Xl hg;obtain ⟨cv,k1,k2⟩:=Xkb hR (hf a (by simp [Op.operands])) q1 q2 h1;exact pure_ (by simp [execOp,k1]) k2 h2
  grind
 case store t a x =>
  split at hg
  ·rename_i i hi;obtain ⟨h1,rfl⟩:=X7f hg;obtain ⟨w',φ',k1,k2,k3⟩:=Xr1 hR (hf a (by simp [Op.operands])) (hf x (by simp [Op.operands])) hi h1;exact ⟨undef,w',φ',.inr ⟨rfl,by simp [execOp,k1]⟩,k2,X2u,k3⟩
  grind
 case nilCheck x =>
  obtain ⟨h1,h2⟩:=Xl hg;obtain ⟨cv,k1,k2⟩:=Xis (P:=P) (w:=w) (o:=⟨dst,.nilCheck x,ty,pos,after,guard⟩) rfl (hf x (by simp [Op.operands])) h1
  grind
 case binOp b t x y yt =>
  cases hpi:Xbk P t
  ·rw [hpi] at hg;obtain ⟨h1,h2⟩:=Xl hg;obtain ⟨cv,k1,k2⟩:=Xuy (w:=w) (by decide) b t x y (hf x (by simp [Op.operands])) (hf y (by simp [Op.operands])) h1;refine pure_ ?_ k2 h2;simp at k1;simp only [execOp,Sem.run_bind,k1,Result.andThen_ok,Sem.run_pure]
  ·rw [hpi] at hg;obtain ⟨h1,h2⟩:=Xl hg;obtain ⟨cv,k1,k2⟩:=Xwz hR (by decide) b t hpi x y (hf x (by simp [Op.operands])) (hf y (by simp [Op.operands])) h1;refine pure_ ?_ k2 h2;simp at k1;simp only [execOp,Sem.run_bind,k1,Result.andThen_ok,Sem.run_pure]
 case unOp u t x =>
  obtain ⟨h1,h2⟩:=Xl hg;obtain ⟨cv,k1,k2⟩:=Xzn (P:=P) (w:=w) u (hf x (by simp [Op.operands])) h1;exact pure_ (by simp [execOp,k1]) k2 h2
 case convert s d x =>
  obtain ⟨cv,w',φ',k1,k2,k3,k4⟩:=Xvb hR (hf x (by simp [Op.operands])) hg;exact ⟨cv,w',φ',.inl (by simp [execOp,k1]),k2,k3,k4⟩
 case makeInterface t x =>
  split at hg
  ·cases hg
  ·rename_i d hne hd;simp at hg;obtain ⟨rfl,rfl⟩:=hg;refine pure_ ?_ (.iface _ _ _ (hf x (by simp [Op.operands]))) rfl;simp only [execOp,Instr.makeInterface,Sem.run_bind,run_underlying hd,Result.andThen_ok];rfl
  grind
 case makeFunc fn first cap =>
  simp at hg;obtain ⟨rfl,rfl⟩:=hg;refine pure_ (by rfl) (.func _ _ _ _ _ ?_ ?_) rfl
  ·rw [Array.toList_map]; exact Xc3 _ (fun x hx=>hf x (by simp [Op.operands,hx]))
  ·rw [Array.toList_map]; exact Xc3 _ (fun x hx=>hf x (by simp [Op.operands,hx]))
 case makeMap t r =>
  split at hg
  ·cases hg;obtain ⟨cv,w',φ',k1,k2,k3,k4⟩:=Xn2 (P:=P) hR t;exact ⟨cv,w',φ',.inl (by simp [execOp,k1]),k2,k3,k4⟩
  grind
 case makeSlice t l c =>
  split at hg
  ·rename_i e ht;split at hg
   ·rename_i i z htz;obtain ⟨q1,q2,q3,q4⟩:=X5l htz;obtain ⟨cv,w',φ',k1,k2,k3,k4⟩:=Xh5 hR ht q1 q2 q3 q4 (hf l (by simp [Op.operands])) (hf c (by simp [Op.operands])) hg;exact ⟨cv,w',φ',.inl (by simp [execOp,k1]),k2,k3,k4⟩
   grind
  grind
 case slice t x lo hi mx =>
  have hx:=hf x (by simp [Op.operands]);have hlo:=orel  lo (fun y hy=>hf y (by subst hy; simp [Op.operands]));have hhi:=orel  hi (fun y hy=>hf y (by subst hy; simp [Op.operands]));split at hg
  ·rename_i ht;split at hg
   ·obtain ⟨h1,h2⟩:=Xl hg;obtain ⟨cv,k1,k2⟩:=Xj6 (w:=w) ht hx hlo hhi h1;exact pure_ (by simp [execOp,k1]) k2 h2
   grind
  ·rename_i e ht;split at hg
   ·rename_i i hi';split at hg
    ·obtain ⟨h1,h2⟩:=Xl hg;obtain ⟨cv,k1,k2⟩:=Xmq (w:=w) ht hi' hx hlo hhi h1;exact pure_ (by simp [execOp,k1]) k2 h2
    ·rename_i k;split at hg
     ·rename_i h0;obtain ⟨h1,h2⟩:=Xl hg;obtain ⟨cv,k1,k2⟩:=Xk0 (w:=w) ht hi' hx hlo (hf h0 (by simp [Op.operands])) (hf k (by simp [Op.operands])) h1;exact pure_ (by simp [execOp,k1]) k2 h2
     grind
   grind
  ·split at hg
   ·rename_i n e har;split at hg
    ·rename_i i hi';split at hg
     ·obtain ⟨h1,h2⟩:=Xl hg;obtain ⟨cv,k1,k2⟩:=Xjg hR (Xn8 har) hi' hx hlo hhi h1;exact pure_ (by simp [execOp,k1]) k2 h2
     grind
    grind
   grind
 case fieldAddr t x k =>
  split at hg
  ·rename_i fs ht;split at hg
   ·rename_i fl hfl;split at hg
    ·rename_i i hi;split at hg
     ·rename_i hs;have hs:=Nat.le_of_ble_eq_true hs;obtain ⟨h1,h2⟩:=Xl hg;obtain ⟨cv,k1,k2⟩:=Xii (w:=w) ht hfl hi (by omega) (hf x (by simp [Op.operands])) h1;exact pure_ (by simp [execOp,k1]) k2 h2
     grind
    grind
   grind
  grind
 case field t x k =>
  split at hg
  ·rename_i fs ht;split at hg
   ·rename_i fl hfl;split at hg
    ·rename_i i d hti;obtain ⟨q1,q2⟩:=Xfl hti;obtain ⟨h1,h2⟩:=Xl hg;obtain ⟨cv,k1,k2⟩:=Xsj (w:=w) ht hfl q1 q2 (hf x (by simp [Op.operands])) h1;exact pure_ (by simp [execOp,k1]) k2 h2
    grind
   grind
  grind
 case indexAddr t x i =>
  split at hg
  ·rename_i n e ht;split at hg
   ·rename_i ie hi;obtain ⟨h1,h2⟩:=Xl hg;obtain ⟨cv,k1,k2⟩:=Xcx (w:=w) ht hi (hf x (by simp [Op.operands])) (hf i (by simp [Op.operands])) h1;exact pure_ (by simp [execOp,k1]) k2 h2
   grind
  ·rename_i e ht;split at hg
   ·rename_i ie hi;obtain ⟨h1,h2⟩:=Xl hg;obtain ⟨cv,k1,k2⟩:=Xdu (w:=w) ht hi (hf x (by simp [Op.operands])) (hf i (by simp [Op.operands])) h1;exact pure_ (by simp [execOp,k1]) k2 h2
   grind
  grind
 case index t x i =>
  split at hg
  ·rename_i n e ht;split at hg
   ·rename_i ie d hti;obtain ⟨q1,q2⟩:=Xfl hti;obtain ⟨h1,h2⟩:=Xl hg;obtain ⟨cv,k1,k2⟩:=Xjx (w:=w) ht q1 q2 (hf x (by simp [Op.operands])) (hf i (by simp [Op.operands])) h1;exact pure_ (by simp [execOp,k1]) k2 h2
   grind
  ·rename_i ht;obtain ⟨h1,h2⟩:=Xl hg;obtain ⟨cv,k1,k2⟩:=Xju (w:=w) ht (hf x (by simp [Op.operands])) (hf i (by simp [Op.operands])) h1;exact pure_ (by simp [execOp,k1]) k2 h2
  grind
 case lookup t x k ok =>
  split at hg
  ·rename_i kt e ht;split at hg
   ·rename_i i z htz;obtain ⟨q1,q2,q3,q4⟩:=X5l htz;split at hg
    ·rename_i D hD;obtain ⟨h1,h2⟩:=Xl hg;obtain ⟨cv,k1,k2⟩:=Xqu hR (by decide) ht hD q1 q2 q3 ok (hf x (by simp [Op.operands])) (hf k (by simp [Op.operands])) h1;exact pure_ (by simp [execOp,k1]) k2 h2
    grind
   grind
  grind
 case mapUpdate t x k u =>
  split at hg
  ·rename_i kt e ht;split at hg
   ·rename_i D hD;obtain ⟨h1,rfl⟩:=X7f hg;obtain ⟨w',φ',k1,k2,k3⟩:=Xbh hR (by decide) ht hD (hf x (by simp [Op.operands])) (hf k (by simp [Op.operands])) (hf u (by simp [Op.operands])) h1;exact ⟨undef,w',φ',.inr ⟨rfl,by simp [execOp,k1]⟩,k2,X2u,k3⟩
   grind
  grind
 case mapEntry t x k =>
  simp only [Xhm] at hg;split at hg
  ·rename_i kt e ht;split at hg
   ·rename_i i z htz;obtain ⟨q1,q2,q3,q4⟩:=X5l htz;split at hg
    ·rename_i D hD;obtain ⟨cv,w',φ',k1,k2,k3,k4⟩:=Xjn hR (by decide) ht hD q1 q2 q3 (hf x (by simp [Op.operands])) (hf k (by simp [Op.operands])) hg;exact ⟨cv,w',φ',.inl (by simp [execOp,k1]),k2,k3,k4⟩
    grind
   grind
  grind
 case entry x =>
  simp only [Xhm] at hg;obtain ⟨h1,h2⟩:=Xl hg;obtain ⟨cv,k1,k2⟩:=Xsp (P:=P) hR (hf x (by simp [Op.operands])) h1;exact pure_ (by simp [execOp,k1]) k2 h2
 case entryStore t x s u =>
  simp only [Xhm] at hg;obtain ⟨h1,rfl⟩:=X7f hg;obtain ⟨w',φ',k1,k2,k3⟩:=Xgk (P:=P) hR t (hf x (by simp [Op.operands])) (hf s (by simp [Op.operands])) (hf u (by simp [Op.operands])) h1;exact ⟨undef,w',φ',.inr ⟨rfl,by simp [execOp,k1]⟩,k2,X2u,k3⟩
 case insert t x k u =>
  split at hg
  ·rename_i kt e ht;split at hg
   ·rename_i D hD;obtain ⟨h1,rfl⟩:=X7f hg;obtain ⟨w',φ',k1,k2,k3⟩:=Xbh hR (by decide) ht hD (hf x (by simp [Op.operands])) (hf k (by simp [Op.operands])) (hf u (by simp [Op.operands])) h1;exact ⟨undef,w',φ',.inr ⟨rfl,by simp [execOp,k1]⟩,k2,X2u,k3⟩
   grind
  grind
 case range t x =>
  split at hg
  ·rename_i ht;obtain ⟨cv,w',φ',k1,k2,k3,k4⟩:=Xjw hR ht (hf x (by simp [Op.operands])) hg;exact ⟨cv,w',φ',.inl (by simp [execOp,k1]),k2,k3,k4⟩
  ·rename_i ht;obtain ⟨cv,w',φ',k1,k2,k3,k4⟩:=Xj5 hR ht (hf x (by simp [Op.operands])) hg;exact ⟨cv,w',φ',.inl (by simp [execOp,k1]),k2,k3,k4⟩
  grind
 case next x b =>
  cases b
  ·obtain ⟨cv,w',φ',k1,k2,k3,k4⟩:=Xmo (P:=P) hR (ty:=ty) (hf x (by simp [Op.operands])) hg;exact ⟨cv,w',φ',.inl (by simp [execOp,k1]),k2,k3,k4⟩
  ·obtain ⟨cv,w',φ',k1,k2,k3,k4⟩:=Xn0 (P:=P) hR (ty:=ty) (hf x (by simp [Op.operands])) hg;exact ⟨cv,w',φ',.inl (by simp [execOp,k1]),k2,k3,k4⟩
 case extract x k =>
  obtain ⟨h1,h2⟩:=Xl hg;obtain ⟨cv,k1,k2⟩:=Xmy (P:=P) (w:=w) (hf x (by simp [Op.operands])) h1;exact pure_ (by simp [execOp,k1]) k2 h2
 case call c =>
  obtain ⟨callee,args,argTypes⟩:=c;cases callee
  case builtin b =>
   have ha:=Xc3  args.toList (fun x hx=>hf x (by simp [Op.operands,Call.operands,hx]));obtain ⟨cv,w',φ',k1,k2,k3,k4⟩:=Xia (ty:=ty) (cs:=args.map fun | .const _=>true | _=>false) hR ha hg;refine ⟨cv,w',φ',.inl ?_,k2,k3,k4⟩;have hmap:args.map cf=(args.toList.map cf).toArray:=by grind
   simp only [execOp,resolve,Sem.run_bind,Sem.run_pure,Result.andThen_ok,invoke,hmap];exact k1
  all_goals cases hg
 all_goals cases hg
end Go.Ab
namespace Go.Ab
open Go.RowKit (Below)
variable {B0 R d n t:Nat} {P:Program} {W0 w w' w0:World} {a:Act} {args cargs:List Value} {cv v:Value} {dst:Option Nat} {f:FuncId} {fn:Func} {m m' m0:Mem} {o o1:Oper} {ops:Array Oper} {ρ:Env} {φ φ' φ0:Pmap}
structure Cfg (D:List Deferred) (W0:World) (n:Nat) (φ:Pmap) (ρ:Env) (m:Mem) (a:Act) (w:World):Prop where
 rel:Rel W0.heap.size φ m w
 below:Below W0.heap.size W0 w
 env:∀ i,VRel φ (ρ i) (a.tmps.getD i undef)
 size:a.tmps.size=n
 defers:a.defers=D
 low:m.low <= m.next
theorem X7b (h:Rel B0 φ m w) (hb:Below B0 W0 w) (s:Stp φ m w φ' m' w'):Below B0 W0 w' where
 os:=s.os.trans hb.os
 tape:=s.tape.trans hb.tape
 output:=s.output.trans hb.output
 size:=Nat.le_trans hb.size s.size
 block:=fun k hk=>by
  rw [s.frame k (Nat.lt_of_lt_of_le hk h.size) (fun b pl hx hr=>by have:=h.base b pl hx hr; omega)];exact hb.block k hk
def Xi0 (P:Program) (f:FuncId) (cargs:List Value) (w:World) (R:Value->World->Prop):Prop:=
 ((callFunc f cargs.toArray).run P w=.ok (.enter f cargs.toArray) w/\Calls P f cargs.toArray w fun e w'=>∃ v,e=.returned v/\R v w') \/
 (∃ v w',(callFunc f cargs.toArray).run P w=.ok (.value v) w'/\R v w')
def After (B0:Nat) (φ:Pmap) (m:Mem) (w:World) (v:Value) (m':Mem) (cv:Value) (w':World):Prop:=
 ∃ φ',Rel B0 φ' m' w'/\VRel φ' v cv/\Stp φ m w φ' m' w'
def X1f (P:Program) (W0:World) (g:Tab):Prop:=
 ∀ (φ:Pmap) (m:Mem) (w:World) (f:FuncId) (args cargs:List Value) (v:Value) (m':Mem),Rel W0.heap.size φ m w->Below W0.heap.size W0 w->VRels φ args cargs->g f args m=some (v,m') ->
  Xi0 P f cargs w (After W0.heap.size φ m w v m')
theorem Xnb {K:Act->World->Prop} {Q:Exit->Act->World->Prop} {R:Value->World->Prop} (h:Xi0 P f cargs w R) (hK:∀ cv w',R cv w'->K (a.put o.dst cv) w'):o.upon P a K Q ((callFunc f cargs.toArray).run P w):=by
 rcases h with ⟨h1,h2⟩ | ⟨v,w',h1,h2⟩
 ·rw [h1];refine h2.mono fun e w' he=>?_;obtain ⟨v,rfl,hv⟩:=he;exact hK v w' hv
 ·rw [h1];exact hK v w' h2
theorem Xgm {g:Tab} (hT:X1f P W0 g) (hR:Rel W0.heap.size φ m w) (hB:Below W0.heap.size W0 w) {f:Operand->Value} (o:Oper) (hf:∀ x ∈ o.op.operands.toList,VRel φ (f x) (a.eval x)) (hg:X6j P g f m o=some (v,m')) {K:Act->World->Prop} {Q:Exit->Act->World->Prop} (hK:∀ cv w',After W0.heap.size φ m w v m' cv w'->K (a.put o.dst cv) w'):o.wp P a w K Q:=by
 have simple:evOp P f m o=some (v,m')->o.wp P a w K Q:=fun h=>by
  obtain ⟨cv,w',φ',h1,h2,h3,h4⟩:=Xiu hR o hf h;have hk:=hK cv w' ⟨φ',h2,h3,h4⟩;unfold Oper.wp;rcases h1 with h1 | ⟨rfl,h1⟩
  ·rw [h1]; exact hk
  ·rw [h1]; exact hk
 unfold X6j at hg;split at hg
 ·rename_i x args tys hop;have hx:=hf x (by rw [hop]; simp [Op.operands,Call.operands]);have ha:=Xc3  args.toList (fun y hy=>hf y (by simp [hop,Op.operands,Call.operands,hy]));unfold X52 at hg;split at hg
  ·rename_i fid first cap hfx
   rw [hfx] at hx;generalize hcx:a.eval x=cx at hx;cases hx with
   | func _ _ _ first' cap' h1 h2 =>
   have hall:=(h1.append ha).append h2;have hc:=hT φ m w fid _ _ v m' hR hB hall hg;have:=Xnb  (Q:=Q) hc hK;unfold Oper.wp;have e:(execOp a.eval o).run P w=(callFunc fid (first'.toList ++ args.toList.map a.eval ++ cap'.toList).toArray).run P w:=by
    have harr:(first'.toList ++ args.toList.map a.eval ++ cap'.toList).toArray=first' ++ args.map a.eval ++ cap':=by
     apply Array.ext'; simp
    rw [harr];simp only [execOp,hop,resolve,Deferred.ofValue,hcx,Sem.run_bind,Sem.run_pure,Result.andThen_ok,invoke]
   grind
  grind
 grind
theorem upd_same (h:ρ d=v):upd n ρ d v=ρ:=by
 funext i;unfold upd;cases hb:Nat.beq i d && Nat.blt d n
 ·rfl
 simp_all
theorem Xor (h:∀ i,VRel φ (ρ i) (a.tmps.getD i undef)) (hs:a.tmps.size=n) (dst:Option Nat) (hv:VRel φ v cv):∀ i,VRel φ (put n ρ dst v i) ((a.put dst cv).tmps.getD i undef):=by
 intro i;cases dst with
 | none=>exact h i
 | some d =>
  simp only [put,upd,Act.put];cases hb:Nat.beq i d && Nat.blt d n
  ·simp only [cond_false];have:(a.tmps.setIfInBounds d cv).getD i undef=a.tmps.getD i undef:=by
    by_cases hid:i=d
    ·subst hid;have hlt:¬ i < n:=fun hlt=>by
      have:(Nat.beq i i && Nat.blt i n)=true:=by
       simp only [Bool.and_eq_true];exact ⟨Nat.beq_refl i,by simp [Nat.blt]; omega⟩
      grind
     grind
    ·simp
     grind
   grind
  simp_all
theorem Xbq:(a.put dst v).tmps.size=a.tmps.size:=by cases dst <;> simp [Act.put]
theorem put_defers:(a.put dst v).defers=a.defers:=by cases dst <;> rfl
theorem Xqi (h:∀ i,VRel φ (ρ i) (a.tmps.getD i undef)) {l:List Operand} (hok:l.all Xmf=true):∀ x ∈ l,VRel φ (opd ρ x) (a.eval x):=by
 intro x hx;have:=List.all_eq_true.1 hok x hx;cases x with
 | tmp t=>exact h t
 | const v=>exact X1d this
 | global g=>trivial
 | func f=>exact .func _ _ _ _ _ .nil .nil
theorem Cfg.after {D:List Deferred} (h:Cfg D W0 n φ ρ m a w) (ha:After W0.heap.size φ m w v m' cv w') :
  ∃ φ',Cfg D W0 n φ' (put n ρ dst v) m' (a.put dst cv) w'/\Stp φ m w φ' m' w':=by
 obtain ⟨φ',h1,h2,h3⟩:=ha;exact ⟨φ',⟨h1,X7b h.rel h.below h3,Xor (fun i=>(h.env i).mono h3.le) h.size dst h2,by rw [Xbq]; exact h.size,by rw [put_defers]; exact h.defers,Nat.le_trans h3.low (Nat.le_trans h.low h3.next)⟩,h3⟩
theorem Cfg.skip {D:List Deferred} (h:Cfg D W0 n φ ρ m a w) (dst:Option Nat):Cfg D W0 n φ (put n ρ dst undef) m (a.put dst undef) w:=
 ⟨h.rel,h.below,Xor h.env h.size dst X2u,by rw [Xbq]; exact h.size,by rw [put_defers]; exact h.defers,h.low⟩
variable {D:List Deferred}
def Xbn (P:Program) (g:Tab) (n:Nat) (ops:Array Oper):List Oper->Nat->List Nat->Env->Mem->(Env->Mem->Option Rs)->Option Rs
 | [],_,_,ρ,m,k=>k ρ m
 | o :: os,i,sk,ρ,m,k =>
  match o.op.operands.toList.all Xmf with
  | false=>none
  | true =>
   match o.guard with
   | none=>opK P (X6j P g (opd ρ) m o) (opd ρ) m o fun v m=>Xbn P g n ops os (i + 1) sk (put n ρ o.dst v) m k
   | some (j,want)=>match (ops[j]?).bind (·.dst) with
    | none=>none
    | some d =>
     match sk.contains j with
     | true=>brs (ρ d) (Xbn P g n ops os (i + 1) (i :: sk) (put n ρ o.dst undef) m k)
     | false=>brb (ρ d)
      (match want with
       | true=>opK P (X6j P g (opd (upd n ρ d (.bool true))) m o) (opd (upd n ρ d (.bool true))) m o fun v m=>Xbn P g n ops os (i + 1) sk (put n (upd n ρ d (.bool true)) o.dst v) m k
       | false=>Xbn P g n ops os (i + 1) (i :: sk) (put n (upd n ρ d (.bool true)) o.dst undef) m k)
      (match want with
       | true=>Xbn P g n ops os (i + 1) (i :: sk) (put n (upd n ρ d (.bool false)) o.dst undef) m k
       | false=>opK P (X6j P g (opd (upd n ρ d (.bool false))) m o) (opd (upd n ρ d (.bool false))) m o fun v m=>Xbn P g n ops os (i + 1) sk (put n (upd n ρ d (.bool false)) o.dst v) m k)
theorem Xgp {α:Type} {x:Option (Value × Mem)} {k:Value->Mem->Option α} {r:α} (h:bp x k=some r):∃ v m,x=some (v,m)/\k v m=some r:=by
 cases x with
 | none=>cases h
 | some y=>exact ⟨y.1,y.2,rfl,h⟩
theorem Xn6 (h:∀ i,VRel φ (ρ i) (a.tmps.getD i undef)) {j:Nat} (hd:(ops[j]?).bind (·.dst)=some d) :
  (∀ b,ρ d=.bool b->yielded ops a.tmps j=some b)/\(ρ d=.tuple #[]->yielded ops a.tmps j=none):=by
 have hr:=h d;constructor
 ·intro b hb;rw [hb] at hr;generalize hc:a.tmps.getD d _=c at hr;cases hr;have:a.tmps[d]?=some (.bool b):=by
   rw [Array.getD_eq_getD_getElem?] at hc;cases hx:a.tmps[d]? with
   | none=>rw [hx] at hc; cases hc
   | some y=>grind
  simp [yielded,hd,this]
 ·intro hb;rw [hb] at hr;generalize hc:a.tmps.getD d _=c at hr;cases hr;rw [Array.getD_eq_getD_getElem?] at hc;cases hx:a.tmps[d]? with
  | none=>simp [yielded,hd,hx]
  | some y=>rw [hx] at hc; simp at hc; simp [yielded,hd,hx,hc]
theorem Xf5 {P:Program} {W0:World} {g:Tab} (hT:X1f P W0 g) {n:Nat} {ops:Array Oper} {Q:Exit->Act->World->Prop} {k:Env->Mem->Option Rs} {r:Rs} {φ0:Pmap} {m0:Mem} {w0:World} :
  ∀ (l:List Oper) (i:Nat) (sk:List Nat) (φ:Pmap) (ρ:Env) (m:Mem) (a:Act) (w:World),(∀ j,l[j]?=ops[i + j]?)->Cfg D W0 n φ ρ m a w->Stp φ0 m0 w0 φ m w->Xbn P g n ops l i sk ρ m k=some r ->
   (∀ φ' ρ' m' a' w',Cfg D W0 n φ' ρ' m' a' w'->Stp φ0 m0 w0 φ' m' w'->k ρ' m'=some r->Q .normal a' w')->wpOps P ops Q (List.range' i l.length) a w
 | [],i,sk,φ,ρ,m,a,w,_,hc,hs,he,hk=>by
  simp only [Xbn] at he;exact hk φ ρ m a w hc hs he
 | o :: os,i,sk,φ,ρ,m,a,w,hl,hc,hs,he,hk=>by
  have ho:ops[i]?=some o:=by have:=hl 0; simpa using this.symm
  have hl':∀ j,os[j]?=ops[i + 1 + j]?:=fun j=>by
   have:=hl (j + 1)
   grind
  simp only [List.length_cons,List.range'_succ];simp only [Xbn,Xgu] at he;split at he
  case h_1=>cases he
  case h_2 hok =>
  -- running the operation
  have run:∀ {ρ1:Env},Cfg D W0 n φ ρ1 m a w->(bp (X6j P g (opd ρ1) m o) fun v m=>Xbn P g n ops os (i + 1) sk (put n ρ1 o.dst v) m k)=some r->Region.wanted o (yielded ops a.tmps)=true ->
    wpOps P ops Q (i :: List.range' (i + 1) os.length) a w:=fun {ρ1} hc1 hb hw=>by
   obtain ⟨v,m',h1,h2⟩:=Xgp hb;simp only [wpOps,ho,hw,if_true];refine .inl (Xgm hT hc1.rel hc1.below o (Xqi hc1.env hok) h1 fun cv w' hafter=>?_);obtain ⟨φ',hc',hs'⟩:=hc1.after (dst:=o.dst) hafter;exact Xf5 hT os (i + 1) sk φ' _ m' _ w' hl' hc' (hs.trans hs') h2 hk
  -- passing it over
  have pass:∀ {ρ1:Env},Cfg D W0 n φ ρ1 m a w->Xbn P g n ops os (i + 1) (i :: sk) (put n ρ1 o.dst undef) m k=some r->Region.wanted o (yielded ops a.tmps)=false ->
    wpOps P ops Q (i :: List.range' (i + 1) os.length) a w:=fun {ρ1} hc1 hb hw=>by
   simp only [wpOps,ho,hw,Bool.false_eq_true,if_false];exact Xf5 hT os (i + 1) (i :: sk) φ _ m _ w hl' (hc1.skip o.dst) hs hb hk
  split at he
  ·rename_i hg;exact run hc he (by simp [Region.wanted,hg])
  ·rename_i j want hg;split at he
   ·cases he
   ·rename_i d hd;obtain ⟨hy1,hy2⟩:=Xn6 hc.env hd;split at he
    ·unfold brs at he;split at he
     ·rename_i hρ;exact pass hc he (by simp [Region.wanted,hg,hy2 hρ])
     trivial
    ·rw [Xun] at he;split at he
     ·rename_i hρ;rw [upd_same hρ] at he;split at he
      ·exact run hc he (by simp [Region.wanted,hg,hy1 _ hρ])
      ·exact pass hc he (by simp [Region.wanted,hg,hy1 _ hρ])
     ·rename_i hρ;rw [upd_same hρ] at he;split at he
      ·exact pass hc he (by simp [Region.wanted,hg,hy1 _ hρ])
      ·exact run hc he (by simp [Region.wanted,hg,hy1 _ hρ])
     trivial
variable {D:List Deferred}
structure Ks where
 nx:Env->Mem->Option Rs
 ex:Nat->Env->Mem->Option Rs
 rt:Env->Mem->Option Rs
abbrev Xa8:=Array Oper->Env->Mem->(Env->Mem->Option Rs)->Option Rs
def Xe8 (body:Env->Mem->Ks->Option Rs):Nat->Env->Mem->Ks->Option Rs
 | 0,_,_,_=>none
 | i + 1,ρ,m,k=>body ρ m { nx:=fun ρ m=>Xe8 body i ρ m k,ex:=k.ex,rt:=k.rt }
def ev (P:Program) (g:Tab) (R:Nat) (dr:Xa8) (n:Nat):Code->Env->Mem->Ks->Option Rs
 | .skip,ρ,m,k=>k.nx ρ m
 | .label _,ρ,m,k=>k.nx ρ m
 | .region _ ops draw,ρ,m,k=>match draw with | true=>dr ops ρ m k.nx | false=>Xbn P g n ops ops.toList 0 [] ρ m k.nx
 | .seq a b,ρ,m,k=>ev P g R dr n a ρ m { nx:=fun ρ m=>ev P g R dr n b ρ m k,ex:=k.ex,rt:=k.rt }
 | .cond c a b,ρ,m,k=>brb (opd ρ c) (ev P g R dr n a ρ m k) (ev P g R dr n b ρ m k)
 | .block id c,ρ,m,k=>ev P g R dr n c ρ m { nx:=k.nx,ex:=fun i ρ m=>bif Nat.beq i id then k.nx ρ m else k.ex i ρ m,rt:=k.rt }
 | .loop c,ρ,m,k=>Xe8 (fun ρ m k=>ev P g R dr n c ρ m k) R ρ m k
 | .exit id,ρ,m,k=>k.ex id ρ m
 | .ret,ρ,m,k=>k.rt ρ m
 | .scope c,ρ,m,k=>ev P g R dr n c ρ m k
 | _,_,_,_=>none
def Xf7 (P:Program) (W0:World) (n:Nat) (dr:Xa8):Prop:=
 ∀ (D:List Deferred) (id:Nat) (ops:Array Oper) (φ:Pmap) (ρ:Env) (m:Mem) (a:Act) (w:World) (k:Env->Mem->Option Rs) (r:Rs) (Q:Exit->Act->World->Prop),Cfg D W0 n φ ρ m a w->dr ops ρ m k=some r ->
  (∀ φ' ρ' m' a' w',Cfg D W0 n φ' ρ' m' a' w'->Stp φ m w φ' m' w'->k ρ' m'=some r->Q .normal a' w')->(Code.region id ops true).wp P Q a w
structure KOk (D:List Deferred) (W0:World) (n:Nat) (k:Ks) (r:Rs) (φ0:Pmap) (m0:Mem) (w0:World) (Q:Exit->Act->World->Prop):Prop where
 nx:∀ φ ρ m a w,Cfg D W0 n φ ρ m a w->Stp φ0 m0 w0 φ m w->k.nx ρ m=some r->Q .normal a w
 ex:∀ id φ ρ m a w,Cfg D W0 n φ ρ m a w->Stp φ0 m0 w0 φ m w->k.ex id ρ m=some r->Q (.exit id) a w
 rt:∀ φ ρ m a w,Cfg D W0 n φ ρ m a w->Stp φ0 m0 w0 φ m w->k.rt ρ m=some r->Q .ret a w
theorem Xtc (n:Nat):List.range n=List.range' 0 n:=List.range_eq_range'
theorem Xtf {g:Tab} (hT:X1f P W0 g) {dr:Xa8} (hD:Xf7 P W0 n dr) {r:Rs} :
  ∀ (c:Code) (φ:Pmap) (ρ:Env) (m:Mem) (a:Act) (w:World) (k:Ks) (Q:Exit->Act->World->Prop) (φ0:Pmap) (m0:Mem) (w0:World),Cfg D W0 n φ ρ m a w->Stp φ0 m0 w0 φ m w->ev P g R dr n c ρ m k=some r->KOk D W0 n k r φ0 m0 w0 Q->c.wp P Q a w:=by
 intro c
 induction c with
 | skip=>intro φ ρ m a w k Q φ0 m0 w0 hc hs he hk; exact wp_skip (hk.nx φ ρ m a w hc hs he)
 | label l=>intro φ ρ m a w k Q φ0 m0 w0 hc hs he hk; exact wp_label (hk.nx φ ρ m a w hc hs he)
 | region id ops draw =>
  intro φ ρ m a w k Q φ0 m0 w0 hc hs he hk;cases draw
  ·simp only [ev] at he;refine wp_region ?_;have:=Xf5 hT _ 0 [] φ ρ m a w (fun j=>by simp) hc hs he (fun φ' ρ' m' a' w' h1 h2 h3=>hk.nx φ' ρ' m' a' w' h1 h2 h3);rw [Xtc]
   grind
  ·simp only [ev] at he;exact hD D id ops φ ρ m a w _ r Q hc he (fun φ' ρ' m' a' w' h1 h2 h3=>hk.nx φ' ρ' m' a' w' h1 (hs.trans h2) h3)
 | seq x y ihx ihy =>
  intro φ ρ m a w k Q φ0 m0 w0 hc hs he hk;simp only [ev] at he;refine wp_seq (ihx φ ρ m a w _ _ φ0 m0 w0 hc hs he ⟨?_,?_,?_⟩)
  ·intro φ' ρ' m' a' w' h1 h2 h3;exact ihy φ' ρ' m' a' w' k Q φ0 m0 w0 h1 h2 h3 hk
  ·intro id φ' ρ' m' a' w' h1 h2 h3;exact hk.ex id φ' ρ' m' a' w' h1 h2 h3
  ·intro φ' ρ' m' a' w' h1 h2 h3;exact hk.rt φ' ρ' m' a' w' h1 h2 h3
 | cond c x y ihx ihy =>
  intro φ ρ m a w k Q φ0 m0 w0 hc hs he hk;simp only [ev] at he;have key:∀ b,opd ρ c=.bool b->a.eval c=.bool b:=fun b hb=>by
   cases c with
   | tmp t =>
    have:=hc.env t;simp only [opd] at hb;rw [hb] at this;simp only [Act.eval];generalize a.tmps.getD t _=q at this;cases this;rfl
   | const v=>exact hb
   | global g=>trivial
   | func f=>cases hb
  rw [Xun] at he;split at he
  ·rename_i hb;exact wp_cond_true (key _ hb) (ihx φ ρ m a w k Q φ0 m0 w0 hc hs he hk)
  ·rename_i hb;exact wp_cond_false (key _ hb) (ihy φ ρ m a w k Q φ0 m0 w0 hc hs he hk)
  trivial
 | block id x ih =>
  intro φ ρ m a w k Q φ0 m0 w0 hc hs he hk;simp only [ev] at he;refine wp_block (ih φ ρ m a w _ _ φ0 m0 w0 hc hs he ⟨?_,?_,?_⟩)
  ·intro φ' ρ' m' a' w' h1 h2 h3;exact hk.nx φ' ρ' m' a' w' h1 h2 h3
  ·intro i φ' ρ' m' a' w' h1 h2 h3;simp only [X4s] at h3;simp only [Exit.inBlock];split at h3
   ·rename_i e;rw [if_pos e];exact hk.nx φ' ρ' m' a' w' h1 h2 h3
   ·rename_i e;rw [if_neg e];exact hk.ex i φ' ρ' m' a' w' h1 h2 h3
  ·intro φ' ρ' m' a' w' h1 h2 h3;exact hk.rt φ' ρ' m' a' w' h1 h2 h3
 | loop x ih =>
  intro φ ρ m a w k Q φ0 m0 w0 hc hs he hk;simp only [ev] at he;refine wp_loop_rounds R ?_;have key:∀ (i:Nat) (φ:Pmap) (ρ:Env) (m:Mem) (a:Act) (w:World),Cfg D W0 n φ ρ m a w->Stp φ0 m0 w0 φ m w->Xe8 (fun ρ m k=>ev P g R dr n x ρ m k) i ρ m k=some r->Code.rounds P x Q i a w:=by
   intro i
   induction i with
   | zero=>intro φ ρ m a w hc hs he; cases he
   | succ i ihi =>
    intro φ ρ m a w hc hs he;simp only [Xe8] at he;rw [rounds_succ];refine ih φ ρ m a w _ _ φ0 m0 w0 hc hs he ⟨?_,?_,?_⟩
    ·assumption
    ·intro id φ' ρ' m' a' w' h1 h2 h3;exact hk.ex id φ' ρ' m' a' w' h1 h2 h3
    ·intro φ' ρ' m' a' w' h1 h2 h3;exact hk.rt φ' ρ' m' a' w' h1 h2 h3
  grind
 | scope x ih =>
  intro φ ρ m a w k Q φ0 m0 w0 hc hs he hk;simp only [ev] at he;exact wp_scope_straight (ih φ ρ m a w k _ φ0 m0 w0 hc hs he ⟨fun φ ρ m a w h1 h2 h3=>hk.nx φ ρ m a w h1 h2 h3,fun id φ ρ m a w h1 h2 h3=>hk.ex id φ ρ m a w h1 h2 h3,fun φ ρ m a w h1 h2 h3=>hk.rt φ ρ m a w h1 h2 h3⟩)
 | exit id=>intro φ ρ m a w k Q φ0 m0 w0 hc hs he hk; exact wp_exit (hk.ex id φ ρ m a w hc hs he)
 | ret=>intro φ ρ m a w k Q φ0 m0 w0 hc hs he hk; exact wp_ret (hk.rt φ ρ m a w hc hs he)
 | rangeFunc _ _ _ _=>intro φ ρ m a w k Q φ0 m0 w0 hc hs he hk; trivial
 | goto _=>intro φ ρ m a w k Q φ0 m0 w0 hc hs he hk; trivial
 | refuse _=>intro φ ρ m a w k Q φ0 m0 w0 hc hs he hk; trivial
variable {D:List Deferred}
def refs (n:Nat):Nat->Value->Bool
 | 0,_=>false
 | d + 1,v=>match v with
  | .bool _ | .int _ _ | .string _ | .float _ _ | .nilFunc | .nilIface | .pointer none | .slice none _ _ | .map none=>true
  | .pointer (some a)=>Nat.blt a.block n
  | .slice (some a) _ _=>Nat.blt a.block n
  | .map (some b)=>Nat.blt b n
  | .func _ f c=>f.toList.all (refs n d) && c.toList.all (refs n d)
  | .iface _ v=>refs n d v
  | .agg cs=>cs.toList.all (refs n d)
  | .tuple cs=>cs.toList.all (refs n d)
  | _=>false
theorem Xs1 (h:∀ b,b < n->φ' b=φ b):∀ (d:Nat) {v cv:Value},refs n d v=true->VRel φ' v cv->VRel φ v cv:=by
 intro d
 induction d with
 | zero=>intro v cv hr; cases hr
 | succ d ih =>
  have all:∀ {l cl:List Value},l.all (refs n d)=true->VRels φ' l cl->VRels φ l cl:=by
   intro l
   induction l with
   | nil=>intro cl _ hl; cases hl; exact .nil
   | cons x l ihl =>
    intro cl hr hl;simp only [List.all_cons,Bool.and_eq_true] at hr;cases hl with
    | cons _ v' _ l' hv hl=>exact .cons _ _ _ _ (ih hr.1 hv) (ihl hr.2 hl)
  intro v cv hr hv;have lt:∀ b,Nat.blt b n=true->b < n:=fun b hb=>by simp_all
  cases hv <;> simp only [refs] at hr
  case bool=>exact .bool _
  case int=>exact .int _ _
  case float=>exact .float _ _
  case string=>exact .string _
  case nilPtr=>exact .nilPtr
  case ptr b o r B O pl hb hr' hp=>exact .ptr b o r B O pl (by grind) hr' hp
  case nilSlice=>exact .nilSlice
  case slice b o es k t B O cap pl hb hes hk hr' hp=>exact .slice b o es k t B O cap pl (by grind) hes hk hr' hp
  case nilMap=>exact .nilMap
  case map b R pl hb hp=>exact .map b R pl (by grind) hp
  case func fn a c a' c' ha hc =>
   simp only [Bool.and_eq_true] at hr;exact .func _ _ _ _ _ (all hr.1 ha) (all hr.2 hc)
  case nilFunc=>exact .nilFunc
  case iface t x x' hx=>exact .iface _ _ _ (ih hr hx)
  case nilIface=>exact .nilIface
  case agg a a' ha=>exact .agg _ _ (all hr ha)
  case tuple a a' ha=>exact .tuple _ _ (all hr ha)
theorem BRel.back {φ φ':Pmap} (h:∀ b pl,φ b=some pl->φ' b=some pl) {w w':World} {pl:Pl} {o:AObj} (h0:BRel φ w pl o) (h1:BRel φ' w' pl o):BRel φ w' pl o:=by
 cases o with
 | cells c ver fro ro ty' =>
  obtain ⟨_,_,_,C,ty,lo,hi,_,_,q,_⟩:=h0;obtain ⟨a1,a2,a3,C',ty',lo',hi',a4,a5,a6,a7⟩:=h1;refine ⟨a1,a2,a3,C',ty',lo',hi',a4,a5,fun i v hi hv=>?_,a7⟩;obtain ⟨c0,_,k1⟩:=q i v hi hv;obtain ⟨c1,k2,k3⟩:=a6 i v hi hv;exact ⟨c1,k2,k1.back h k3⟩
 | map es clock =>
  obtain ⟨_,_,es0,_,q⟩:=h0;obtain ⟨a1,a2,es1,a3,a4⟩:=h1;exact ⟨a1,a2,es1,a3,q.back h a4⟩
 | siter s pos=>exact h1
 | miter _ _ _ _ =>
  obtain ⟨_,_,_,_,cm0,q,_⟩:=h0;obtain ⟨a1,a2,a3,a4,cm,a5,a6⟩:=h1;exact ⟨a1,a2,a3,a4,cm,q.back h a5,a6⟩
def withLow (m:Mem) (l:Nat):Mem:={ next:=m.next,low:=l,tr:=m.tr }
def Xlu (m:Mem):Mem:=Mem.rec (motive:=fun _=>Mem) (fun n _ t=>Xem n fun n=>⟨n,n,t⟩) m
theorem Xno (m:Mem):Xlu m=withLow m m.next:=by
 cases m with
 | mk n l t =>
  show Xem n (fun n=>(⟨n,n,t⟩:Mem))=_;rw [Xp2]; rfl
theorem X90 (h:Rel B0 φ m w) (l:Nat):Rel B0 φ (withLow m l) w:=⟨h.blocks,h.inj,h.base,h.size,h.fresh⟩
def gcO (m:Mem) (v:Value) (m1:Mem):Value × Mem:=
 bif Nat.ble m.next m1.low && refs m.next 8 v then (v,m) else (v,withLow m1 (min m.low m1.low))
def gc:=@gcO
theorem Xh2 (m:Mem) (v:Value) (m1:Mem):gc m v m1=gcO m v m1:=rfl
theorem Xzs {m1:Mem} (h:Rel B0 φ m w) (h1:Rel B0 φ' m1 w') (hv:VRel φ' v cv) (hs:Stp φ (withLow m m.next) w φ' m1 w') :
  After B0 φ m w (gc m v m1).1 (gc m v m1).2 cv w':=by
 rw [Xh2]; unfold gcO;cases hc:Nat.ble m.next m1.low && refs m.next 8 v
 ·simp;refine ⟨φ',X90 h1 _,hv,⟨hs.le,hs.next,by simp [withLow]; omega,fun b hb1 hb2=>?_,hs.os,hs.tape,hs.output,hs.size,hs.frame,hs.img,hs.un⟩⟩;have:=hs.same b (by simp [withLow] at hb1; omega) hb2;trivial
 ·simp only [cond_true];simp only [Bool.and_eq_true] at hc;have hlow:=Nat.le_of_ble_eq_true hc.1;have same:∀ b,b < m.next->m1.get b=m.get b/\φ' b=φ b:=fun b hb=>hs.same b (by omega) hb;have hag:∀ b pl,φ b=some pl->φ' b=some pl:=fun b pl hb=>by rw [(same b (h.blocks b pl hb).1).2]; exact hb
  refine ⟨φ,⟨fun b pl hb=>?_,h.inj,h.base,Nat.le_trans h.size hs.size,h.fresh⟩,Xs1 (fun b hb=>(same b hb).2) 8 hc.2 hv,⟨.refl φ,Nat.le_refl _,Nat.le_refl _,fun _ _ _=>⟨rfl,rfl⟩,hs.os,hs.tape,hs.output,hs.size,hs.frame,fun b pl hb hr=>.inl ⟨b,pl,hb,hr,rfl⟩,fun _ _ h=>⟨h,rfl⟩⟩⟩;obtain ⟨q1,o,q2,q3⟩:=h.blocks b pl hb;obtain ⟨_,o1,q4,q5⟩:=h1.blocks b pl (hag b pl hb);rw [(same b q1).1,q2] at q4;cases q4;exact ⟨q1,o,q2,q3.back hag q5⟩
def Xk9 (P:Program):List ResultVar->Env->Mem->Option (List Value)
 | [],_,_=>some []
 | .tmp t :: r,ρ,m=>ob (Xk9 P r ρ m) fun l=>some (ρ t :: l)
 | .cell a t :: r,ρ,m=>match ti P t with
  | some (i,d)=>ob (X8 (X5c d) i.size (ρ a) m) fun v=>ob (Xk9 P r ρ m) fun l=>some (v :: l)
  | none=>none
def X1i (l:List Value):Value:=match l with | [v]=>v | l=>.tuple ⟨l⟩
def Xc0 (P:Program) (fn:Func) (ρ:Env) (m:Mem):Option Rs:=ob (Xk9 P fn.results.toList ρ m) fun l=>some (X1i l,m)
def env0 (args:List Value):Env:=fun i=>(args[i]?).getD undef
def dfOf (ops:Array Oper):Option (Oper × Nat):=
 match ops.toList with
 | [o1,o2]=>(match o1.guard,o2.guard,o2.dst,o2.op with
  | none,none,none,.defer c=>(match c.callee,c.args.toList with
   | .value (.tmp t),[]=>some (o1,t)
   | _,_=>none)
  | _,_,_,_=>none)
 | _=>none
def dfC (c:Code):Option (Oper × Nat):=match c with | .region _ ops false=>dfOf ops | _=>none
def spD:Code->Bool
 | .seq a b=>(dfC a).isSome || spD b
 | _=>false
def finD (P:Program) (g:Tab) (R:Nat) (dr:Nat->Xa8) (fn:Func) (cl:Option Value) (ρ:Env) (m:Mem):Option Rs:=
 match cl with
 | none=>Xc0 P fn ρ m
 | some (.func (.func f) first cap)=>(match P.funcs[f]? with
  | none=>none
  | some fd=>(match fd.body with
   | none=>none
   | some cd=>if (fd.name == "runtime.NumGoroutine")=false/\(first.toList ++ cap.toList).length <= fd.ntmps/\fd.results.toList=[] then
     ev P g R (dr fd.ntmps) fd.ntmps cd (env0 (first.toList ++ cap.toList)) m { nx:=fun _ m=>Xc0 P fn ρ m,ex:=fun _ _ _=>none,rt:=fun _ m=>Xc0 P fn ρ m }
    else none))
 | _=>none
def isFn (v:Value):Bool:=match v with | .func (.func _) _ _=>true | _=>false
def evSp (P:Program) (g:Tab) (R:Nat) (dr:Nat->Xa8) (n:Nat) (fin:Option Value->Env->Mem->Option Rs):Code->Env->Mem->Option Rs
 | .seq a b,ρ,m=>(match dfC a with
  | some (o1,t)=>if o1.op.operands.toList.all Xmf=true then bp (X6j P g (opd ρ) m o1) fun v m=>if isFn (put n ρ o1.dst v t)=true then ev P g R (dr n) n b (put n ρ o1.dst v) m { nx:=fin (some (put n ρ o1.dst v t)),ex:=fun _ _ _=>none,rt:=fin (some (put n ρ o1.dst v t)) } else none else none
  | none=>ev P g R (dr n) n a ρ m { nx:=fun ρ m=>evSp P g R dr n fin b ρ m,ex:=fun _ _ _=>none,rt:=fin none })
 | _,_,_=>none
def evFn (P:Program) (g:Tab) (R:Nat) (dr:Nat->Xa8) (fn:Func) (args:List Value) (m:Mem):Option Rs:=
 match fn.body with
 | none=>none
 | some c=>if Nat.ble args.length fn.ntmps then (match spD c with
  | false=>ev P g R (dr fn.ntmps) fn.ntmps c (env0 args) m { nx:=Xc0 P fn,ex:=fun _ _ _=>none,rt:=Xc0 P fn }
  | true=>evSp P g R dr fn.ntmps (finD P g R dr fn) c (env0 args) m) else none
def Xg5 (P:Program) (R:Nat) (dr:Tab->Nat->Xa8) (g:Tab):Tab:=fun f args m =>
 match P.funcs[f]? with
 | none=>none
 | some fn=>if fn.name == "runtime.NumGoroutine" then none else
  match evFn P g R (dr g) fn args (withLow m m.next) with
  | some (v,m1)=>some (gc m v m1)
  | none=>none
def Xes (tmps:Array Value) (r:ResultVar):Sem Value:=
 match r with
 | .tmp t=>pure (tmps.getD t undef)
 | .cell x t=>do loadVar t (<- asAddr (tmps.getD x undef))
theorem Xez (fn:Func) (tmps:Array Value):results fn tmps=(fn.results.mapM (Xes tmps) >>= fun vs=>pure (if h:vs.size=1 then vs[0] else .tuple vs)):=by
 rfl
theorem Xgq {P:Program} {W0:World} {n:Nat} {φ:Pmap} {ρ:Env} {m:Mem} {a:Act} {w:World} (h:Cfg D W0 n φ ρ m a w):∀ {rs:List ResultVar} {l:List Value},Xk9 P rs ρ m=some l ->
    ∃ cl,(rs.mapM (Xes a.tmps)).run P w=.ok cl w/\VRels φ l cl
  | [],l,he=>by
    simp only [Xk9,Option.some.injEq] at he;subst he;exact ⟨[],by simp,.nil⟩
  | .tmp t :: rs,l,he=>by
    simp only [Xk9,Xt1] at he;split at he
    . rename_i l' hl';cases he;obtain ⟨cl,k1,k2⟩:=Xgq h hl';exact ⟨_ :: cl,by simp only [List.mapM_cons,Xes,Sem.run_bind,Sem.run_pure,Result.andThen_ok,k1],.cons _ _ _ _ (h.env t) k2⟩
    grind
  | .cell x t :: rs,l,he=>by
    simp only [Xk9,Xt1] at he;split at he
    . rename_i i d hti;obtain ⟨q1,q2⟩:=Xfl hti;split at he
      . rename_i v hv;split at he
        . rename_i l' hl';cases he;obtain ⟨cl,k1,k2⟩:=Xgq h hl';have hx:=h.env x;obtain ⟨cv,k3,k4⟩:=Xkb h.rel hx q1 q2 hv;refine ⟨cv :: cl,?_,.cons _ _ _ _ k4 k2⟩;have k5:(Xes a.tmps (.cell x t)).run P w=.ok cv w:=by
            unfold Xes;generalize hq:a.tmps.getD x undef=q at hx k3;generalize ρ x=rx at hx hv;cases hx <;> first
              | trivial
              | (simp only [Instr.loadAt,Instr.sureAddr,Sem.run_bind,Sem.run_pure,Result.andThen_ok] at k3
                 simp only [hq,asAddr,Sem.run_bind,Sem.run_pure,Result.andThen_ok];exact k3)
          simp_all
        grind
      grind
    grind
theorem Xne (h:Cfg D W0 n φ ρ m a w) {r:Rs} (he:Xc0 P fn ρ m=some r) :
  ∃ cv,(results fn a.tmps).run P w=.ok cv w/\VRel φ r.1 cv/\r.2=m:=by
 unfold Xc0 at he;rw [Xt1] at he;split at he
 ·rename_i l hl;cases he;obtain ⟨cl,k1,k2⟩:=Xgq h hl;have hm:(fn.results.mapM (Xes a.tmps)).run P w=.ok cl.toArray w:=by
   simp [Array.mapM_eq_mapM_toList,Sem.run_map,k1,Result.andThen_ok]
  refine ⟨if h:cl.toArray.size=1 then cl.toArray[0] else .tuple cl.toArray,?_,?_,rfl⟩
  ·rw [Xez];simp_all
  ·clear hl;cases k2 with
   | nil=>exact .tuple _ _ .nil
   | cons v v' l l' hv hl =>
    cases hl with
    | nil=>exact hv
    | cons u u' l2 l2' hu hl2 =>
     have:¬ (v' :: u' :: l2').toArray.size=1:=by simp
     rw [dif_neg this];exact .tuple _ _ (.cons _ _ _ _ hv (.cons _ _ _ _ hu hl2))
 grind
theorem Xhw (hR:Rel W0.heap.size φ m w) (hB:Below W0.heap.size W0 w) (hl:m.low <= m.next) (ha:VRels φ args cargs) (hlen:args.length <= n) :
  Cfg [] W0 n φ (env0 args) m { tmps:=cargs.toArray ++ Array.replicate (n - cargs.toArray.size) undef,defers:=[] } w:=by
 have hal:=ha.length;refine ⟨hR,hB,fun i=>?_,by grind,rfl,hl⟩;simp only [env0,Array.getD_eq_getD_getElem?];rw [Array.getElem?_append];cases hai:args[i]? with
 | none =>
  have hi:args.length <= i:=by grind
  rw [if_neg (by grind)];rw [Array.getElem?_replicate];split <;> exact X2u
 | some x =>
  obtain ⟨cx,k1,k2⟩:=ha.get hai
  grind
theorem Cfg.mono {D D':List Deferred} {W0:World} {n n':Nat} {φ φ':Pmap} {ρ ρ':Env} {m m':Mem} {a a':Act} {w w':World} (h:Cfg D W0 n φ ρ m a w) (h':Cfg D' W0 n' φ' ρ' m' a' w') (hs:Stp φ m w φ' m' w'):Cfg D W0 n φ' ρ m' a w':=
 ⟨h'.rel,h'.below,fun i=>(h.env i).mono hs.le,h.size,h.defers,h'.low⟩
def Xzj (cv:Value):Deferred:=match cv with | .func f first cap=>{ target:=.fn f cap,args:=first ++ #[] } | _=>default
theorem Xoy (h:dfOf ops=some (o1,t)):∃ o2 c,ops=#[o1,o2]/\o1.guard=none/\o2.guard=none/\o2.dst=none/\o2.op=.defer c/\c.callee=.value (.tmp t)/\c.args=#[]:=by
 unfold dfOf at h;split at h
 ·rename_i x y hxy;split at h
  ·rename_i c h1 h2 h3 h4;split at h
   ·rename_i t' h5 h6;simp at h;obtain ⟨rfl,rfl⟩:=h;exact ⟨y,c,by grind,h1,h2,h3,h4,h5,by grind⟩
   grind
  grind
 grind
theorem Xvs {g:Tab} (hT:X1f P W0 g) {dr:Nat->Xa8} (hD:∀ n,Xf7 P W0 n (dr n)) {fin:Option Value->Env->Mem->Option Rs} {r:Rs} {Q:Exit->Act->World->Prop} (hQ0:∀ φ ρ m a w,Cfg [] W0 n φ ρ m a w->Stp φ0 m0 w0 φ m w->fin none ρ m=some r->Q .ret a w) (hQ1:∀ φ ρ m a w v cv,VRel φ v cv->Cfg [Xzj cv] W0 n φ ρ m a w->Stp φ0 m0 w0 φ m w->fin (some v) ρ m=some r->Q .normal a w/\Q .ret a w) :
  ∀ (c:Code) (φ:Pmap) (ρ:Env) (m:Mem) (a:Act) (w:World),Cfg [] W0 n φ ρ m a w->Stp φ0 m0 w0 φ m w->evSp P g R dr n fin c ρ m=some r->c.wp P Q a w:=by
 intro c
 induction c with
 | seq x y _ ihy =>
  intro φ ρ m a w hc hs he;unfold evSp at he;cases hd:dfC x with
  | none =>
   rw [hd] at he;refine wp_seq (Xtf hT (hD n) x φ ρ m a w _ _ φ0 m0 w0 hc hs he ⟨?_,?_,?_⟩)
   ·assumption
   ·simp
   assumption
  | some p =>
   obtain ⟨o1,t⟩:=p;rw [hd] at he;simp only at he;split at he
   ·rename_i hok;unfold dfC at hd;split at hd
    ·rename_i id ops;obtain ⟨o2,cc,rfl,g1,g2,d2,e2,e3,e4⟩:=Xoy hd;obtain ⟨v,m',k1,k2⟩:=Xgp he;refine wp_seq (wp_region ?_);show wpOps P _ _ [0,1] a w;have hw1:Region.wanted o1 (yielded #[o1,o2] a.tmps)=true:=by simp [Region.wanted,g1]
     have ho1:(#[o1,o2])[0]?=some o1:=rfl;simp only [wpOps,ho1,hw1,if_true];refine .inl (Xgm hT hc.rel hc.below o1 (Xqi hc.env hok) k1 fun cv w' hafter=>?_);obtain ⟨φ',hc',hs'⟩:=hc.after (dst:=o1.dst) hafter;have hw2:Region.wanted o2 (yielded #[o1,o2] (a.put o1.dst cv).tmps)=true:=by simp [Region.wanted,g2]
     have ho2:(#[o1,o2])[1]?=some o2:=rfl;simp only [ho2,hw2,if_true];have hv:=hc'.env t;split at k2
     case isFalse=>cases k2
     rename_i hfn;generalize hx:put n ρ _ v t=x at k2 hv hfn;generalize hcx:(a.put _ cv).tmps.getD t _=cx at hv;have fol:=fun a2 ha2 =>
      Xtf hT (hD n) y φ' _ m' a2 w' _ _ φ' m' w' ha2 (.refl _ _ _) k2 ⟨fun φ2 ρ2 m2 a3 w3 h1 h2 h3=>(hQ1 φ2 ρ2 m2 a3 w3 x cx (hv.mono h2.le) h1 (hs.trans (hs'.trans h2)) h3).1,fun _ _ _ _ _ _ _ _ h3=>(by cases h3),
       fun φ2 ρ2 m2 a3 w3 h1 h2 h3=>(hQ1 φ2 ρ2 m2 a3 w3 x cx (hv.mono h2.le) h1 (hs.trans (hs'.trans h2)) h3).2⟩
     have hcf:∃ f fi ca,cx=.func f fi ca:=by
      cases x <;> simp only [isFn] at hfn <;> first | cases hfn | skip
      cases hv;exact ⟨_,_,_,rfl⟩
     obtain ⟨f,fi,ca,rfl⟩:=hcf;refine .inl ?_;have hev:(a.put _ cv).eval (.tmp t)=.func f fi ca:=hcx;have hrun:(execOp (a.put o1.dst cv).eval o2).run P w'=.ok (.defer { target:=.fn f ca,args:=fi ++ #[] }) w':=by
      simp only [execOp,e2,resolve,e3,e4,hev,Deferred.ofValue];simp [go_sem]
     unfold Oper.wp;rw [hrun,Oper.upon_defer];rw [d2];refine fol _ ⟨hc'.rel,hc'.below,hc'.env,hc'.size,?_,hc'.low⟩;show { target:=Target.fn f ca,args:=fi ++ #[] } :: (a.put _ cv).defers=_;rw [hc'.defers];rfl
    grind
   ·cases he
 | _=>intro φ ρ m a w hc hs he; cases he
theorem Xnf {g:Tab} (hT:X1f P W0 g) {dr:Tab->Nat->Xa8} (hD:∀ n,Xf7 P W0 n (dr g n)):X1f P W0 (Xg5 P R dr g):=by
 intro φ m w f args cargs v m' hR hB ha hg;unfold Xg5 at hg;split at hg
 ·cases hg
 ·rename_i fn hfn;split at hg
  ·cases hg
  ·rename_i hnm;split at hg
   ·rename_i u m1 he;simp only [Option.some.injEq] at hg;have hv:v=(gc m u m1).1:=by rw [hg]
    have hm:m'=(gc m u m1).2:=by rw [hg]
    subst hv hm;unfold evFn at he;split at he
    ·cases he
    ·rename_i c hc;split at he
     ·rename_i hlen;have hlen:=Nat.le_of_ble_eq_true hlen;refine .inl ⟨by simp [callFunc,hfn,show ¬ fn.name="runtime.NumGoroutine" from by grind,hc],?_⟩;have hal:=ha.length;have hlow:(withLow m _).low <= (withLow m m.next).next:=Nat.le_refl _;have hcfg:Cfg [] W0 _ φ _ _ _ w:=
       Xhw (X90 hR _) hB hlow ha hlen
      have fin:∀ D φ' ρ' m'' a' w',Cfg D W0 fn.ntmps φ' ρ' m'' a' w'->Stp φ (withLow m m.next) w φ' m'' w'->Xc0 P fn ρ' m''=some (u,m1) ->
        ∃ cv,(results fn a'.tmps).run P w'=.ok cv w'/\∃ x,Ending.returned cv=.returned x/\After W0.heap.size φ m w (gc m u m1).1 (gc m u m1).2 x w':=fun D φ' ρ' m'' a' w' h1 h2 h3=>by
       obtain ⟨cv,k1,k2,k3⟩:=Xne h1 h3;simp only at k2 k3;subst k3;exact ⟨cv,k1,cv,rfl,Xzs hR h1.rel k2 h2⟩
      cases hsp:spD c with
      | false =>
       rw [hsp] at he;refine calls_of_wp hfn hc ?_;refine Xtf hT (hD _) c φ _ _ _ w _ _ φ _ w hcfg (.refl _ _ _) he ⟨?_,?_,?_⟩
       ·intro φ' ρ' m'' a' w' h1 h2 h3;exact ⟨h1.defers,fin _ φ' ρ' m'' a' w' h1 h2 h3⟩
       ·simp
       ·intro φ' ρ' m'' a' w' h1 h2 h3;exact ⟨h1.defers,fin _ φ' ρ' m'' a' w' h1 h2 h3⟩
      | true =>
       rw [hsp] at he;refine calls_of_wp_defers hfn hc ?_;refine Xvs hT hD ?_ ?_ c φ _ _ _ w hcfg (.refl _ _ _) he
       ·intro φ' ρ' m'' a' w' h1 h2 h3;obtain ⟨cv,k1,x,k2,k3⟩:=fin _ φ' ρ' m'' a' w' h1 h2 h3;show Leaves P fn _ _ _ _ w';rw [h1.defers];exact ⟨cv,k1,x,k2,k3⟩
       ·intro φ' ρ' m'' a' w' v cv hv h1 h2 h3
        suffices hl:Leaves P fn _ (fun e w'=>∃ x,e=.returned x/\After _ φ m w _ _ x w') _ _ w' from ⟨hl,hl⟩
        rw [h1.defers];unfold finD at h3;split at h3
        ·grind
        ·rename_i f first cap hfe
         cases hfe;cases hv;rename_i fi ca hfi hca;split at h3
         ·cases h3
         ·rename_i fd hfd;split at h3
          ·cases h3
          ·rename_i cd hcd;split at h3
           ·rename_i hcond;obtain ⟨q1,q2,q3⟩:=hcond;have hargs:=hfi.append hca;have hinv:(invoke (.fn (.func f) ca) (fi ++ #[])).run P w'=.ok (.enter f (fi.toList ++ ca.toList).toArray) w':=by
             have e:fi ++ #[] ++ ca=(fi.toList ++ ca.toList).toArray:=by
              simp
             simp only [invoke];rw [e];simp [callFunc,hfd,hcd,show ¬ fd.name="runtime.NumGoroutine" from by grind]
            refine leaves_cons (by simp) hinv ?_;refine (callsD_of_wp (R:=fun e w2=>∃ v,e=.returned v/\∃ cv,(results fn a'.tmps).run P w2=.ok cv w2/\∃ x,Ending.returned cv=.returned x/\After W0.heap.size φ m w (gc m u m1).1 (gc m u m1).2 x w2) hfd hcd ?_).mono ?_
            ·have hcfg2:=Xhw h1.rel h1.below h1.low hargs q2;have fin2:∀ φ2 ρ2 m2 a2 w2,Cfg [] W0 fd.ntmps φ2 ρ2 m2 a2 w2->Stp φ' m'' w' φ2 m2 w2->Xc0 P fn ρ' m2=some (u,m1)->a2.defers=[]/\∃ cv,(results fd a2.tmps).run P w2=.ok cv w2/\∃ v,Ending.returned cv=.returned v/\∃ cv,(results fn a'.tmps).run P w2=.ok cv w2/\∃ x,Ending.returned cv=.returned x/\After W0.heap.size φ m w (gc m u m1).1 (gc m u m1).2 x w2:=by
              intro φ2 ρ2 m2 a2 w2 g1 g2 g3;have hr:(results fd a2.tmps).run P w2=.ok (.tuple #[]) w2:=by
               have:fd.results=#[]:=by apply Array.toList_inj.mp; exact q3
               rw [Xez,this];simp [go_sem]
              exact ⟨g1.defers,_,hr,_,rfl,fin _ φ2 ρ' m2 a' w2 (h1.mono g1 g2) (h2.trans g2) g3⟩
             refine Xtf hT (hD _) cd φ' _ m'' _ w' _ _ φ' m'' w' hcfg2 (.refl _ _ _) h3 ⟨?_,?_,?_⟩
             ·assumption
             ·intro id φ2 ρ2 m2 a2 w2 g1 g2 g3;cases g3
             assumption
            ·rintro e u' w2 ⟨rfl,v,rfl,cv,k1,k2⟩
             exact ⟨cv,k1,k2⟩
           grind
        grind
     grind
   grind
end Go.Ab
end
