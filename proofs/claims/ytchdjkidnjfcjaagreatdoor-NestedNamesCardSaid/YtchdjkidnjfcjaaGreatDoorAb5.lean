/-
  An evaluator over abstract memories, and that what it answers the machine answers. No conditions.
-/
import Derived.Test.YtchdjkidnjfcjaaGreatDoorAb4
import Derived.Lib.AtoiAll
import Derived.Lib.ParseIntB
import Derived.Lib.ItoaNum
import Derived.Lib.LaidTab
import Derived.Lib.Join
import Derived.Lib.Fields
import Derived.Lib.Index
import Derived.Lib.Bytealg

namespace Go.Ab
noncomputable section
open Go
structure Gt where
  tab : Tab
  rds : Nat
section
variable {P : Program} {g : Tab} {R : Nat} {dr : Drawn} {n : Nat}
theorem tr {α : Type} {A B C : Env → Mem → α} (h : ∀ ρ m, A ρ m = B ρ m) (k : ∀ ρ m, B ρ m = C ρ m) : ∀ ρ m, A ρ m = C ρ m := fun ρ m => (h ρ m).trans (k ρ m)
theorem seqQ {x y : Code} {K : Ks} {f : Env → Mem → Option Rs} (h : ∀ ρ m, ev P g R dr n y ρ m K = f ρ m) : ∀ ρ m, ev P g R dr n (.seq x y) ρ m K = ev P g R dr n x ρ m ⟨f, K.ex, K.rt⟩ := by
  intro ρ m
  have : (fun ρ m => ev P g R dr n y ρ m K) = f := by funext ρ m; exact h ρ m
  show ev P g R dr n x ρ m ⟨fun ρ m => ev P g R dr n y ρ m K, K.ex, K.rt⟩ = _
  rw [this]
theorem seqD {x y : Code} {K : Ks} : ∀ ρ m, ev P g R dr n (.seq x y) ρ m K = ev P g R dr n x ρ m ⟨fun ρ m => ev P g R dr n y ρ m K, K.ex, K.rt⟩ := fun _ _ => rfl
theorem refQ {x : Code} {K : Ks} : ∀ ρ m, ev P g R dr n x ρ m K = ev P g R dr n x ρ m K := fun _ _ => rfl
theorem condQ {c : Operand} {x y : Code} {K : Ks} {f h : Env → Mem → Option Rs} (hf : ∀ ρ m, ev P g R dr n x ρ m K = f ρ m) (hh : ∀ ρ m, ev P g R dr n y ρ m K = h ρ m) :
    ∀ ρ m, ev P g R dr n (.cond c x y) ρ m K = brb (opd ρ c) (f ρ m) (h ρ m) := by
  intro ρ m
  rw [← hf, ← hh]
  rfl
theorem blockQ {id : Nat} {c : Code} {K : Ks} {f : Env → Mem → Option Rs} (h : ∀ ρ m, ev P g R dr n c ρ m ⟨K.nx, fun i ρ m => bif Nat.beq i id then K.nx ρ m else K.ex i ρ m, K.rt⟩ = f ρ m) :
    ∀ ρ m, ev P g R dr n (.block id c) ρ m K = f ρ m := h
theorem scopeQ {c : Code} {K : Ks} {f : Env → Mem → Option Rs} (h : ∀ ρ m, ev P g R dr n c ρ m K = f ρ m) : ∀ ρ m, ev P g R dr n (.scope c) ρ m K = f ρ m := h
theorem loopQ {c : Code} {K : Ks} (F : Nat → Env → Mem → Option Rs) (h0 : ∀ ρ m, F 0 ρ m = none) (hs : ∀ i, ∀ ρ m, ev P g R dr n c ρ m ⟨F i, K.ex, K.rt⟩ = F (i + 1) ρ m) :
    ∀ ρ m, ev P g R dr n (.loop c) ρ m K = F R ρ m := by
  have key : ∀ i ρ m, evLoop (fun ρ m k => ev P g R dr n c ρ m k) i ρ m K = F i ρ m := by
    intro i
    induction i with
    | zero => intro ρ m; rw [h0]; rfl
    | succ i ih =>
      intro ρ m
      rw [← hs]
      have : (fun ρ m => evLoop (fun ρ m k => ev P g R dr n c ρ m k) i ρ m K) = F i := by funext ρ m; exact ih ρ m
      show ev P g R dr n c ρ m ⟨fun ρ m => evLoop (fun ρ m k => ev P g R dr n c ρ m k) i ρ m K, K.ex, K.rt⟩ = _
      rw [this]
  exact key R
end
theorem evFn_of {P : Program} {g : Tab} {R : Nat} {dr : Nat → Drawn} {fn : Func} {args : List Value} {c : Code} (hb : fn.body = some c) (hl : Nat.ble args.length fn.ntmps = true) {r : Env → Mem → Option Rs}
    (h : ∀ ρ m, ev P g R (dr fn.ntmps) fn.ntmps c ρ m ⟨evEnd P fn, fun _ _ _ => none, evEnd P fn⟩ = r ρ m) (m : Mem) : evFn P g R dr fn args m = r (env0 args) m := by
  unfold evFn
  rw [hb]
  simp only [hl, if_true]
  exact h _ _
end
end Go.Ab

namespace Go.Ab
noncomputable section
open Go
open Go.RowKit (Below)
structure Entry (P : Program) where
  f : FuncId
  fn : Func
  hf : P.funcs[f]? = some fn
  hn : (fn.name == "runtime.NumGoroutine") = false
  h : Gt → List Value → Mem → Option Rs
  ok : ∀ G args m r, h G args m = some r → evFn P G.tab G.rds (drOf P G.tab) fn args m = some r
abbrev Over := FuncId → List Value → Mem → Option Rs
def shTI {P : Program} (fns : Tr (Entry P)) (ov : Over) (R : Nat) : Nat → Tab
  | 0 => fun f args m => ov f args m
  | n + 1 => fun f args m => match ov f args m with
    | some r => some r
    | none => match fns.get (f + 1) with
      | none => none
      | some e => match Nat.beq e.f f with
        | false => none
        | true => match e.h ⟨shTI fns ov R n, R⟩ args (withLow m m.next) with
          | some (v, m1) => some (gc m v m1)
          | none => none
def shT {P : Program} (fns : Tr (Entry P)) (ov : Over) (R : Nat) : Nat → Tab :=
  Nat.rec (motive := fun _ => Tab) (fun f args m => ov f args m) (fun _ ih f args m => Option.rec (Option.rec none (fun e => Bool.rec none (Option.rec none (fun p => Prod.rec (fun v m1 => some (gc m v m1)) p) (e.h ⟨ih, R⟩ args (enterM m))) (Nat.beq e.f f)) (fns.get (Nat.succ f))) (fun r => some r) (ov f args m))
theorem shT_zero {P : Program} (fns : Tr (Entry P)) (ov : Over) (R : Nat) : shT fns ov R 0 = fun f args m => ov f args m := rfl
theorem shT_succ {P : Program} (fns : Tr (Entry P)) (ov : Over) (R n : Nat) (f : FuncId) (args : List Value) (m : Mem) : shT fns ov R (n + 1) f args m = match ov f args m with
    | some r => some r
    | none => match fns.get (f + 1) with
      | none => none
      | some e => match Nat.beq e.f f with
        | false => none
        | true => match e.h ⟨shT fns ov R n, R⟩ args (withLow m m.next) with
          | some (v, m1) => some (gc m v m1)
          | none => none := by
  rw [← enterM_eq]
  show (Option.rec (Option.rec none (fun e => Bool.rec none (Option.rec none (fun p => Prod.rec (fun v m1 => some (gc m v m1)) p) (e.h ⟨shT fns ov R n, R⟩ args (enterM m))) (Nat.beq e.f f)) (fns.get (Nat.succ f))) (fun r => some r) (ov f args m) : Option Rs) = _
  cases ov f args m with
  | some r => rfl
  | none =>
    show (Option.rec none _ (fns.get (f + 1)) : Option Rs) = _
    cases fns.get (f + 1) with
    | none => rfl
    | some e =>
      show (Bool.rec none (Option.rec none (fun p => Prod.rec (fun v m1 => some (gc m v m1)) p) (e.h ⟨shT fns ov R n, R⟩ args (enterM m))) (Nat.beq e.f f) : Option Rs) = _
      simp only
      cases Nat.beq e.f f with
      | false => rfl
      | true =>
        simp only
        cases e.h ⟨shT fns ov R n, R⟩ args (enterM m) with
        | none => rfl
        | some p => rfl
def OvSound (P : Program) (W0 : World) (ov : Over) : Prop := TabSound P W0 (fun f args m => ov f args m)
theorem shT_ok {P : Program} (hm : P.follows .mixedOrders = true) {W0 : World} {fns : Tr (Entry P)} {ov : Over} {R : Nat} (ho : OvSound P W0 ov) : ∀ n, TabSound P W0 (shT fns ov R n)
  | 0 => ho
  | n + 1 => by
    intro φ m w f args cargs v m' hR hB ha hg
    rw [shT_succ] at hg
    split at hg
    · rename_i r hr
      cases hg
      exact ho φ m w f args cargs v m' hR hB ha hr
    · split at hg
      · cases hg
      · rename_i e he
        split at hg
        · cases hg
        · rename_i hb
          have hef := Nat.eq_of_beq_eq_true hb
          have ih := shT_ok hm (fns := fns) (R := R) ho n
          refine step_ok hm (R := R) ih φ m w f args cargs v m' hR hB ha ?_
          split at hg
          · rename_i u m1 hu
            have := e.ok _ _ _ _ hu
            unfold tabStep
            rw [← hef, e.hf]
            simp only [e.hn, Bool.false_eq_true, if_false]
            rw [this]
            exact hg
          · cases hg
def arg0 (s : Gt → Mem → Option Rs) : Gt → List Value → Mem → Option Rs := fun G args m => match args with | [] => s G  m | _ => none
theorem okarg0 {P : Program} {fn : Func} {s : Gt → Mem → Option Rs} (e : ∀ (G : Gt) (m : Mem), evFn P G.tab G.rds (drOf P G.tab) fn [] m = s G  m) : ∀ G args m r, arg0 s G args m = some r → evFn P G.tab G.rds (drOf P G.tab) fn args m = some r := by
  intro G args m r h
  unfold arg0 at h
  split at h
  · rw [e]; exact h
  · cases h
def arg1 (s : Gt → Value → Mem → Option Rs) : Gt → List Value → Mem → Option Rs := fun G args m => match args with | [a0] => s G a0 m | _ => none
theorem okarg1 {P : Program} {fn : Func} {s : Gt → Value → Mem → Option Rs} (e : ∀ (G : Gt) (a0 : Value) (m : Mem), evFn P G.tab G.rds (drOf P G.tab) fn [a0] m = s G a0 m) : ∀ G args m r, arg1 s G args m = some r → evFn P G.tab G.rds (drOf P G.tab) fn args m = some r := by
  intro G args m r h
  unfold arg1 at h
  split at h
  · rw [e]; exact h
  · cases h
def arg2 (s : Gt → Value → Value → Mem → Option Rs) : Gt → List Value → Mem → Option Rs := fun G args m => match args with | [a0, a1] => s G a0 a1 m | _ => none
theorem okarg2 {P : Program} {fn : Func} {s : Gt → Value → Value → Mem → Option Rs} (e : ∀ (G : Gt) (a0 : Value) (a1 : Value) (m : Mem), evFn P G.tab G.rds (drOf P G.tab) fn [a0, a1] m = s G a0 a1 m) : ∀ G args m r, arg2 s G args m = some r → evFn P G.tab G.rds (drOf P G.tab) fn args m = some r := by
  intro G args m r h
  unfold arg2 at h
  split at h
  · rw [e]; exact h
  · cases h
def arg3 (s : Gt → Value → Value → Value → Mem → Option Rs) : Gt → List Value → Mem → Option Rs := fun G args m => match args with | [a0, a1, a2] => s G a0 a1 a2 m | _ => none
theorem okarg3 {P : Program} {fn : Func} {s : Gt → Value → Value → Value → Mem → Option Rs} (e : ∀ (G : Gt) (a0 : Value) (a1 : Value) (a2 : Value) (m : Mem), evFn P G.tab G.rds (drOf P G.tab) fn [a0, a1, a2] m = s G a0 a1 a2 m) : ∀ G args m r, arg3 s G args m = some r → evFn P G.tab G.rds (drOf P G.tab) fn args m = some r := by
  intro G args m r h
  unfold arg3 at h
  split at h
  · rw [e]; exact h
  · cases h
def arg4 (s : Gt → Value → Value → Value → Value → Mem → Option Rs) : Gt → List Value → Mem → Option Rs := fun G args m => match args with | [a0, a1, a2, a3] => s G a0 a1 a2 a3 m | _ => none
theorem okarg4 {P : Program} {fn : Func} {s : Gt → Value → Value → Value → Value → Mem → Option Rs} (e : ∀ (G : Gt) (a0 : Value) (a1 : Value) (a2 : Value) (a3 : Value) (m : Mem), evFn P G.tab G.rds (drOf P G.tab) fn [a0, a1, a2, a3] m = s G a0 a1 a2 a3 m) : ∀ G args m r, arg4 s G args m = some r → evFn P G.tab G.rds (drOf P G.tab) fn args m = some r := by
  intro G args m r h
  unfold arg4 at h
  split at h
  · rw [e]; exact h
  · cases h
def arg5 (s : Gt → Value → Value → Value → Value → Value → Mem → Option Rs) : Gt → List Value → Mem → Option Rs := fun G args m => match args with | [a0, a1, a2, a3, a4] => s G a0 a1 a2 a3 a4 m | _ => none
theorem okarg5 {P : Program} {fn : Func} {s : Gt → Value → Value → Value → Value → Value → Mem → Option Rs} (e : ∀ (G : Gt) (a0 : Value) (a1 : Value) (a2 : Value) (a3 : Value) (a4 : Value) (m : Mem), evFn P G.tab G.rds (drOf P G.tab) fn [a0, a1, a2, a3, a4] m = s G a0 a1 a2 a3 a4 m) : ∀ G args m r, arg5 s G args m = some r → evFn P G.tab G.rds (drOf P G.tab) fn args m = some r := by
  intro G args m r h
  unfold arg5 at h
  split at h
  · rw [e]; exact h
  · cases h
def arg6 (s : Gt → Value → Value → Value → Value → Value → Value → Mem → Option Rs) : Gt → List Value → Mem → Option Rs := fun G args m => match args with | [a0, a1, a2, a3, a4, a5] => s G a0 a1 a2 a3 a4 a5 m | _ => none
theorem okarg6 {P : Program} {fn : Func} {s : Gt → Value → Value → Value → Value → Value → Value → Mem → Option Rs} (e : ∀ (G : Gt) (a0 : Value) (a1 : Value) (a2 : Value) (a3 : Value) (a4 : Value) (a5 : Value) (m : Mem), evFn P G.tab G.rds (drOf P G.tab) fn [a0, a1, a2, a3, a4, a5] m = s G a0 a1 a2 a3 a4 a5 m) : ∀ G args m r, arg6 s G args m = some r → evFn P G.tab G.rds (drOf P G.tab) fn args m = some r := by
  intro G args m r h
  unfold arg6 at h
  split at h
  · rw [e]; exact h
  · cases h
def arg7 (s : Gt → Value → Value → Value → Value → Value → Value → Value → Mem → Option Rs) : Gt → List Value → Mem → Option Rs := fun G args m => match args with | [a0, a1, a2, a3, a4, a5, a6] => s G a0 a1 a2 a3 a4 a5 a6 m | _ => none
theorem okarg7 {P : Program} {fn : Func} {s : Gt → Value → Value → Value → Value → Value → Value → Value → Mem → Option Rs} (e : ∀ (G : Gt) (a0 : Value) (a1 : Value) (a2 : Value) (a3 : Value) (a4 : Value) (a5 : Value) (a6 : Value) (m : Mem), evFn P G.tab G.rds (drOf P G.tab) fn [a0, a1, a2, a3, a4, a5, a6] m = s G a0 a1 a2 a3 a4 a5 a6 m) : ∀ G args m r, arg7 s G args m = some r → evFn P G.tab G.rds (drOf P G.tab) fn args m = some r := by
  intro G args m r h
  unfold arg7 at h
  split at h
  · rw [e]; exact h
  · cases h
def arg8 (s : Gt → Value → Value → Value → Value → Value → Value → Value → Value → Mem → Option Rs) : Gt → List Value → Mem → Option Rs := fun G args m => match args with | [a0, a1, a2, a3, a4, a5, a6, a7] => s G a0 a1 a2 a3 a4 a5 a6 a7 m | _ => none
theorem okarg8 {P : Program} {fn : Func} {s : Gt → Value → Value → Value → Value → Value → Value → Value → Value → Mem → Option Rs} (e : ∀ (G : Gt) (a0 : Value) (a1 : Value) (a2 : Value) (a3 : Value) (a4 : Value) (a5 : Value) (a6 : Value) (a7 : Value) (m : Mem), evFn P G.tab G.rds (drOf P G.tab) fn [a0, a1, a2, a3, a4, a5, a6, a7] m = s G a0 a1 a2 a3 a4 a5 a6 a7 m) : ∀ G args m r, arg8 s G args m = some r → evFn P G.tab G.rds (drOf P G.tab) fn args m = some r := by
  intro G args m r h
  unfold arg8 at h
  split at h
  · rw [e]; exact h
  · cases h
def arg9 (s : Gt → Value → Value → Value → Value → Value → Value → Value → Value → Value → Mem → Option Rs) : Gt → List Value → Mem → Option Rs := fun G args m => match args with | [a0, a1, a2, a3, a4, a5, a6, a7, a8] => s G a0 a1 a2 a3 a4 a5 a6 a7 a8 m | _ => none
theorem okarg9 {P : Program} {fn : Func} {s : Gt → Value → Value → Value → Value → Value → Value → Value → Value → Value → Mem → Option Rs} (e : ∀ (G : Gt) (a0 : Value) (a1 : Value) (a2 : Value) (a3 : Value) (a4 : Value) (a5 : Value) (a6 : Value) (a7 : Value) (a8 : Value) (m : Mem), evFn P G.tab G.rds (drOf P G.tab) fn [a0, a1, a2, a3, a4, a5, a6, a7, a8] m = s G a0 a1 a2 a3 a4 a5 a6 a7 a8 m) : ∀ G args m r, arg9 s G args m = some r → evFn P G.tab G.rds (drOf P G.tab) fn args m = some r := by
  intro G args m r h
  unfold arg9 at h
  split at h
  · rw [e]; exact h
  · cases h
def arg10 (s : Gt → Value → Value → Value → Value → Value → Value → Value → Value → Value → Value → Mem → Option Rs) : Gt → List Value → Mem → Option Rs := fun G args m => match args with | [a0, a1, a2, a3, a4, a5, a6, a7, a8, a9] => s G a0 a1 a2 a3 a4 a5 a6 a7 a8 a9 m | _ => none
theorem okarg10 {P : Program} {fn : Func} {s : Gt → Value → Value → Value → Value → Value → Value → Value → Value → Value → Value → Mem → Option Rs} (e : ∀ (G : Gt) (a0 : Value) (a1 : Value) (a2 : Value) (a3 : Value) (a4 : Value) (a5 : Value) (a6 : Value) (a7 : Value) (a8 : Value) (a9 : Value) (m : Mem), evFn P G.tab G.rds (drOf P G.tab) fn [a0, a1, a2, a3, a4, a5, a6, a7, a8, a9] m = s G a0 a1 a2 a3 a4 a5 a6 a7 a8 a9 m) : ∀ G args m r, arg10 s G args m = some r → evFn P G.tab G.rds (drOf P G.tab) fn args m = some r := by
  intro G args m r h
  unfold arg10 at h
  split at h
  · rw [e]; exact h
  · cases h
def arg11 (s : Gt → Value → Value → Value → Value → Value → Value → Value → Value → Value → Value → Value → Mem → Option Rs) : Gt → List Value → Mem → Option Rs := fun G args m => match args with | [a0, a1, a2, a3, a4, a5, a6, a7, a8, a9, a10] => s G a0 a1 a2 a3 a4 a5 a6 a7 a8 a9 a10 m | _ => none
theorem okarg11 {P : Program} {fn : Func} {s : Gt → Value → Value → Value → Value → Value → Value → Value → Value → Value → Value → Value → Mem → Option Rs} (e : ∀ (G : Gt) (a0 : Value) (a1 : Value) (a2 : Value) (a3 : Value) (a4 : Value) (a5 : Value) (a6 : Value) (a7 : Value) (a8 : Value) (a9 : Value) (a10 : Value) (m : Mem), evFn P G.tab G.rds (drOf P G.tab) fn [a0, a1, a2, a3, a4, a5, a6, a7, a8, a9, a10] m = s G a0 a1 a2 a3 a4 a5 a6 a7 a8 a9 a10 m) : ∀ G args m r, arg11 s G args m = some r → evFn P G.tab G.rds (drOf P G.tab) fn args m = some r := by
  intro G args m r h
  unfold arg11 at h
  split at h
  · rw [e]; exact h
  · cases h
def arg12 (s : Gt → Value → Value → Value → Value → Value → Value → Value → Value → Value → Value → Value → Value → Mem → Option Rs) : Gt → List Value → Mem → Option Rs := fun G args m => match args with | [a0, a1, a2, a3, a4, a5, a6, a7, a8, a9, a10, a11] => s G a0 a1 a2 a3 a4 a5 a6 a7 a8 a9 a10 a11 m | _ => none
theorem okarg12 {P : Program} {fn : Func} {s : Gt → Value → Value → Value → Value → Value → Value → Value → Value → Value → Value → Value → Value → Mem → Option Rs} (e : ∀ (G : Gt) (a0 : Value) (a1 : Value) (a2 : Value) (a3 : Value) (a4 : Value) (a5 : Value) (a6 : Value) (a7 : Value) (a8 : Value) (a9 : Value) (a10 : Value) (a11 : Value) (m : Mem), evFn P G.tab G.rds (drOf P G.tab) fn [a0, a1, a2, a3, a4, a5, a6, a7, a8, a9, a10, a11] m = s G a0 a1 a2 a3 a4 a5 a6 a7 a8 a9 a10 a11 m) : ∀ G args m r, arg12 s G args m = some r → evFn P G.tab G.rds (drOf P G.tab) fn args m = some r := by
  intro G args m r h
  unfold arg12 at h
  split at h
  · rw [e]; exact h
  · cases h
def arg13 (s : Gt → Value → Value → Value → Value → Value → Value → Value → Value → Value → Value → Value → Value → Value → Mem → Option Rs) : Gt → List Value → Mem → Option Rs := fun G args m => match args with | [a0, a1, a2, a3, a4, a5, a6, a7, a8, a9, a10, a11, a12] => s G a0 a1 a2 a3 a4 a5 a6 a7 a8 a9 a10 a11 a12 m | _ => none
theorem okarg13 {P : Program} {fn : Func} {s : Gt → Value → Value → Value → Value → Value → Value → Value → Value → Value → Value → Value → Value → Value → Mem → Option Rs} (e : ∀ (G : Gt) (a0 : Value) (a1 : Value) (a2 : Value) (a3 : Value) (a4 : Value) (a5 : Value) (a6 : Value) (a7 : Value) (a8 : Value) (a9 : Value) (a10 : Value) (a11 : Value) (a12 : Value) (m : Mem), evFn P G.tab G.rds (drOf P G.tab) fn [a0, a1, a2, a3, a4, a5, a6, a7, a8, a9, a10, a11, a12] m = s G a0 a1 a2 a3 a4 a5 a6 a7 a8 a9 a10 a11 a12 m) : ∀ G args m r, arg13 s G args m = some r → evFn P G.tab G.rds (drOf P G.tab) fn args m = some r := by
  intro G args m r h
  unfold arg13 at h
  split at h
  · rw [e]; exact h
  · cases h
def arg14 (s : Gt → Value → Value → Value → Value → Value → Value → Value → Value → Value → Value → Value → Value → Value → Value → Mem → Option Rs) : Gt → List Value → Mem → Option Rs := fun G args m => match args with | [a0, a1, a2, a3, a4, a5, a6, a7, a8, a9, a10, a11, a12, a13] => s G a0 a1 a2 a3 a4 a5 a6 a7 a8 a9 a10 a11 a12 a13 m | _ => none
theorem okarg14 {P : Program} {fn : Func} {s : Gt → Value → Value → Value → Value → Value → Value → Value → Value → Value → Value → Value → Value → Value → Value → Mem → Option Rs} (e : ∀ (G : Gt) (a0 : Value) (a1 : Value) (a2 : Value) (a3 : Value) (a4 : Value) (a5 : Value) (a6 : Value) (a7 : Value) (a8 : Value) (a9 : Value) (a10 : Value) (a11 : Value) (a12 : Value) (a13 : Value) (m : Mem), evFn P G.tab G.rds (drOf P G.tab) fn [a0, a1, a2, a3, a4, a5, a6, a7, a8, a9, a10, a11, a12, a13] m = s G a0 a1 a2 a3 a4 a5 a6 a7 a8 a9 a10 a11 a12 a13 m) : ∀ G args m r, arg14 s G args m = some r → evFn P G.tab G.rds (drOf P G.tab) fn args m = some r := by
  intro G args m r h
  unfold arg14 at h
  split at h
  · rw [e]; exact h
  · cases h
def arg15 (s : Gt → Value → Value → Value → Value → Value → Value → Value → Value → Value → Value → Value → Value → Value → Value → Value → Mem → Option Rs) : Gt → List Value → Mem → Option Rs := fun G args m => match args with | [a0, a1, a2, a3, a4, a5, a6, a7, a8, a9, a10, a11, a12, a13, a14] => s G a0 a1 a2 a3 a4 a5 a6 a7 a8 a9 a10 a11 a12 a13 a14 m | _ => none
theorem okarg15 {P : Program} {fn : Func} {s : Gt → Value → Value → Value → Value → Value → Value → Value → Value → Value → Value → Value → Value → Value → Value → Value → Mem → Option Rs} (e : ∀ (G : Gt) (a0 : Value) (a1 : Value) (a2 : Value) (a3 : Value) (a4 : Value) (a5 : Value) (a6 : Value) (a7 : Value) (a8 : Value) (a9 : Value) (a10 : Value) (a11 : Value) (a12 : Value) (a13 : Value) (a14 : Value) (m : Mem), evFn P G.tab G.rds (drOf P G.tab) fn [a0, a1, a2, a3, a4, a5, a6, a7, a8, a9, a10, a11, a12, a13, a14] m = s G a0 a1 a2 a3 a4 a5 a6 a7 a8 a9 a10 a11 a12 a13 a14 m) : ∀ G args m r, arg15 s G args m = some r → evFn P G.tab G.rds (drOf P G.tab) fn args m = some r := by
  intro G args m r h
  unfold arg15 at h
  split at h
  · rw [e]; exact h
  · cases h
def arg16 (s : Gt → Value → Value → Value → Value → Value → Value → Value → Value → Value → Value → Value → Value → Value → Value → Value → Value → Mem → Option Rs) : Gt → List Value → Mem → Option Rs := fun G args m => match args with | [a0, a1, a2, a3, a4, a5, a6, a7, a8, a9, a10, a11, a12, a13, a14, a15] => s G a0 a1 a2 a3 a4 a5 a6 a7 a8 a9 a10 a11 a12 a13 a14 a15 m | _ => none
theorem okarg16 {P : Program} {fn : Func} {s : Gt → Value → Value → Value → Value → Value → Value → Value → Value → Value → Value → Value → Value → Value → Value → Value → Value → Mem → Option Rs} (e : ∀ (G : Gt) (a0 : Value) (a1 : Value) (a2 : Value) (a3 : Value) (a4 : Value) (a5 : Value) (a6 : Value) (a7 : Value) (a8 : Value) (a9 : Value) (a10 : Value) (a11 : Value) (a12 : Value) (a13 : Value) (a14 : Value) (a15 : Value) (m : Mem), evFn P G.tab G.rds (drOf P G.tab) fn [a0, a1, a2, a3, a4, a5, a6, a7, a8, a9, a10, a11, a12, a13, a14, a15] m = s G a0 a1 a2 a3 a4 a5 a6 a7 a8 a9 a10 a11 a12 a13 a14 a15 m) : ∀ G args m r, arg16 s G args m = some r → evFn P G.tab G.rds (drOf P G.tab) fn args m = some r := by
  intro G args m r h
  unfold arg16 at h
  split at h
  · rw [e]; exact h
  · cases h
def trOf {α : Type} (key : α → Nat) : List α → Tr α → Tr α
  | [], t => t
  | a :: l, t => trOf key l (Tr.put (key a + 1) t (key a + 1) a)
end
end Go.Ab

namespace Go.Ab
noncomputable section
open Go
open Go.RowKit (Below)
variable {P : Program} {W0 : World}
theorem enters {f : FuncId} {fn : Func} {c : Code} (hf : P.funcs[f]? = some fn) (hb : fn.body = some c) (hn : (fn.name == "runtime.NumGoroutine") = false) (args : Array Value) (w : World) : (callFunc f args).run P w = .ok (.enter f args) w := by
  have hn' : ¬ fn.name = "runtime.NumGoroutine" := by simpa using hn
  simp [callFunc, hf, hn', hb]
theorem rel_below {B0 : Nat} {φ : Pmap} {m : Mem} {w w' : World} (hR : Rel B0 φ m w) (hb : Below w.heap.size w w') : Rel B0 φ m w' ∧ Stp φ m w φ m w' := by
  have hblk : ∀ b pl, φ b = some pl → pl.blk < w.heap.size := fun b pl h => by
    obtain ⟨_, o, _, h3⟩ := hR.blocks b pl h
    exact h3.there
  refine ⟨⟨fun b pl h => ?_, hR.inj, hR.base, Nat.le_trans hR.size hb.size, hR.fresh⟩, ⟨.refl φ, Nat.le_refl _, Nat.le_refl _, fun _ _ _ => ⟨rfl, rfl⟩, hb.os, hb.tape, hb.output, hb.size, fun B hB _ => hb.block B hB, fun b pl h hr => .inl ⟨b, pl, h, hr, rfl⟩, fun _ _ h => ⟨h, rfl⟩⟩⟩
  obtain ⟨h1, o, h2, h3⟩ := hR.blocks b pl h
  exact ⟨h1, o, h2, h3.of_heap (hb.block _ (hblk b pl h))⟩
theorem callsV_below {f : FuncId} {cargs : List Value} {φ : Pmap} {m : Mem} {w : World} {v cv : Value} (he : (callFunc f cargs.toArray).run P w = .ok (.enter f cargs.toArray) w)
    (hc : Calls P f cargs.toArray w fun e w' => e = .returned cv ∧ Below w.heap.size w w') (hR : Rel W0.heap.size φ m w) (hv : VRel φ v cv) : CallsV P f cargs w (After W0.heap.size φ m w v m) := by
  refine .inl ⟨he, hc.mono fun e w' h => ⟨cv, h.1, φ, ?_⟩⟩
  obtain ⟨h1, h2⟩ := rel_below hR h.2
  exact ⟨h1, hv, h2⟩
theorem callsV_same {f : FuncId} {cargs : List Value} {φ : Pmap} {m : Mem} {w : World} {v cv : Value} (he : (callFunc f cargs.toArray).run P w = .ok (.enter f cargs.toArray) w)
    (hc : Calls P f cargs.toArray w fun e w' => e = .returned cv ∧ w' = w) (hR : Rel W0.heap.size φ m w) (hv : VRel φ v cv) : CallsV P f cargs w (After W0.heap.size φ m w v m) :=
  callsV_below he (hc.mono fun e w' h => ⟨h.1, by rw [h.2]; exact Below.refl _ _⟩) hR hv
theorem callsV_at {f : FuncId} {cargs : List Value} {φ : Pmap} {m : Mem} {w : World} {v cv : Value} (he : (callFunc f cargs.toArray).run P w = .ok (.value cv) w) (hR : Rel W0.heap.size φ m w) (hv : VRel φ v cv) :
    CallsV P f cargs w (After W0.heap.size φ m w v m) := .inr ⟨cv, w, he, φ, hR, hv, .refl _ _ _⟩
theorem cell_kept {w : World} (hB : Below W0.heap.size W0 w) {a : Addr} {v : Value} (h : W0.cell? a = some v) : w.cell? a = some v := by
  have hlt : a.block < W0.heap.size := by
    rcases Nat.lt_or_ge a.block W0.heap.size with hh | hh
    · exact hh
    · unfold World.cell? at h
      rw [Array.getElem?_eq_none hh] at h
      cases h
  rw [← h]
  exact hB.cell hlt
def orElse (a b : Over) : Over := fun f args m => match a f args m with | some r => some r | none => b f args m
theorem orElse_ok {a b : Over} (ha : OvSound P W0 a) (hb : OvSound P W0 b) : OvSound P W0 (orElse a b) := by
  intro φ m w f args cargs v m' hR hB hA hg
  simp only [orElse] at hg
  split at hg
  · rename_i r hr
    cases hg
    exact ha φ m w f args cargs v m' hR hB hA hr
  · exact hb φ m w f args cargs v m' hR hB hA hg
theorem none_ok : OvSound P W0 (fun _ _ _ => none) := fun _ _ _ _ _ _ _ _ _ _ _ h => by cases h
theorem VRels.strings {φ : Pmap} {s : ByteArray} {l c : List Value} (h : VRels φ (.string s :: l) c) : ∃ c', c = .string s :: c' ∧ VRels φ l c' := by
  cases h with
  | cons _ v' _ l' hv hl => cases hv; exact ⟨l', rfl, hl⟩
theorem VRels.ints1 {φ : Pmap} {k : IntKind} {n : Int} {l c : List Value} (h : VRels φ (.int k n :: l) c) : ∃ c', c = .int k n :: c' ∧ VRels φ l c' := by
  cases h with
  | cons _ v' _ l' hv hl => cases hv; exact ⟨l', rfl, hl⟩
theorem VRels.nils {φ : Pmap} {c : List Value} (h : VRels φ [] c) : c = [] := by cases h; rfl
def ovIndex (f0 : FuncId) (idx : List UInt8 → List UInt8 → Int) : Over := fun f args m => match args with
  | [.string s, .string sub] => if f = f0 ∧ s.size < 4294967281 then some (.int .i64 (idx s.data.toList sub.data.toList), m) else none
  | _ => none
theorem ovIndex_ok {f0 : FuncId} {idx : List UInt8 → List UInt8 → Int} {fn : Func} {c : Code} (hf : P.funcs[f0]? = some fn) (hb : fn.body = some c) (hn : (fn.name == "runtime.NumGoroutine") = false) {mx : Int} {ga : Addr} (hmx : W0.cell? ga = some (.int .i64 mx))
    (hc : ∀ (s sub : ByteArray) (w : World), s.size < 4294967281 → w.cell? ga = some (.int .i64 mx) → Calls P f0 #[.string s, .string sub] w fun e w' => e = .returned (.int .i64 (idx s.data.toList sub.data.toList)) ∧ w' = w) : OvSound P W0 (ovIndex f0 idx) := by
  intro φ m w f args cargs v m' hR hB hA hg
  simp only [ovIndex] at hg
  split at hg
  · rename_i s sub
    split at hg
    · rename_i h
      obtain ⟨rfl, hs⟩ := h
      simp only [Option.some.injEq, Prod.mk.injEq] at hg
      obtain ⟨rfl, rfl⟩ := hg
      obtain ⟨c1, rfl, h1⟩ := hA.strings
      obtain ⟨c2, rfl, h2⟩ := h1.strings
      cases h2.nils
      exact callsV_same (enters hf hb hn _ _) (hc s sub w hs (cell_kept hB hmx)) hR (.int _ _)
    · cases hg
  · cases hg
def ovByte (f0 : FuncId) (k : IntKind) (idx : List UInt8 → Int → Option Value) : Over := fun f args m => match args with
  | [.string s, .int k' c] => if f = f0 ∧ k' = k then match idx s.data.toList c with | some v => some (v, m) | none => none else none
  | _ => none
theorem ovByte_ok {f0 : FuncId} {k : IntKind} {idx : List UInt8 → Int → Option Value} {fn : Func} {c : Code} (hf : P.funcs[f0]? = some fn) (hb : fn.body = some c) (hn : (fn.name == "runtime.NumGoroutine") = false)
    (hc : ∀ (s : ByteArray) (n : Int) (v : Value) (w : World), idx s.data.toList n = some v → plainV v = true ∧ Calls P f0 #[.string s, .int k n] w fun e w' => e = .returned v ∧ w' = w) : OvSound P W0 (ovByte f0 k idx) := by
  intro φ m w f args cargs v m' hR hB hA hg
  simp only [ovByte] at hg
  split at hg
  · rename_i s k' n
    split at hg
    · rename_i h
      obtain ⟨rfl, rfl⟩ := h
      split at hg
      · rename_i u hu
        simp only [Option.some.injEq, Prod.mk.injEq] at hg
        obtain ⟨rfl, rfl⟩ := hg
        obtain ⟨c1, rfl, h1⟩ := hA.strings
        obtain ⟨c2, rfl, h2⟩ := h1.ints1
        cases h2.nils
        obtain ⟨q1, q2⟩ := hc s n u w hu
        exact callsV_same (enters hf hb hn _ _) q2 hR (plainV_rel q1)
      · cases hg
    · cases hg
  · cases hg
def ovCount (f0 : FuncId) (cnt : List UInt8 → UInt8 → Nat) : Over := fun f args m => match args with
  | [.string s, .string sub] => if f = f0 then match sub.data.toList with | [b] => some (.int .i64 (cnt s.data.toList b), m) | _ => none else none
  | _ => none
theorem ovCount_ok {f0 : FuncId} {cnt : List UInt8 → UInt8 → Nat} {fn : Func} {c : Code} (hf : P.funcs[f0]? = some fn) (hb : fn.body = some c) (hn : (fn.name == "runtime.NumGoroutine") = false)
    (hc : ∀ (s : ByteArray) (b : UInt8) (w : World), Calls P f0 #[.string s, .string ⟨#[b]⟩] w fun e w' => e = .returned (.int .i64 (cnt s.data.toList b)) ∧ w' = w) : OvSound P W0 (ovCount f0 cnt) := by
  intro φ m w f args cargs v m' hR hB hA hg
  simp only [ovCount] at hg
  split at hg
  · rename_i s sub
    split at hg
    · rename_i h
      subst h
      split at hg
      · rename_i b hb1
        simp only [Option.some.injEq, Prod.mk.injEq] at hg
        obtain ⟨rfl, rfl⟩ := hg
        obtain ⟨c1, rfl, h1⟩ := hA.strings
        obtain ⟨c2, rfl, h2⟩ := h1.strings
        cases h2.nils
        have e : sub = ⟨#[b]⟩ := by
          apply ByteArray.ext
          apply Array.ext'
          exact hb1
        rw [e]
        exact callsV_same (enters hf hb hn _ _) (hc s b w) hR (.int _ _)
      · cases hg
    · cases hg
  · cases hg
def ovSame (f0 : FuncId) : Over := fun f args m => match args with
  | [x] => if f = f0 then some (x, m) else none
  | _ => none
theorem ovSame_ok {f0 : FuncId} (he : ∀ (x : Value) (w : World), (callFunc f0 #[x]).run P w = .ok (.value x) w) : OvSound P W0 (ovSame f0) := by
  intro φ m w f args cargs v m' hR hB hA hg
  simp only [ovSame] at hg
  split at hg
  · rename_i x
    split at hg
    · rename_i h
      subst h
      simp only [Option.some.injEq, Prod.mk.injEq] at hg
      obtain ⟨rfl, rfl⟩ := hg
      obtain ⟨cx, rfl, hx⟩ := hA.one
      exact callsV_at (he cx w) hR hx
    · cases hg
  · cases hg
end
end Go.Ab

namespace Go.Ab
noncomputable section
open Go
open Go.RowKit (Below)
def mem0 : Mem := ⟨0, 0, .nil⟩
theorem rel_mem0 (W : World) : Rel W.heap.size (fun _ => none) mem0 W := ⟨(fun b pl h => nomatch h), (fun _ _ _ _ h => nomatch h), (fun b pl h => nomatch h), Nat.le_refl _, (fun b _ => rfl)⟩
theorem closed_calls {P : Program} {W : World} {g : Tab} (hT : TabSound P W g) {f : FuncId} {fn : Func} {c : Code} (hf : P.funcs[f]? = some fn) (hb : fn.body = some c) (hn : (fn.name == "runtime.NumGoroutine") = false) {v : Value} {m' : Mem} (hv : plainV v = true)
    (hg : g f [] mem0 = some (v, m')) (hpl : ∀ φ cv, VRel φ v cv → cv = v) : Calls P f #[] W fun e w' => e = .returned v ∧ Below W.heap.size W w' := by
  have h := hT (fun _ => none) mem0 W f [] [] v m' (rel_mem0 W) (Below.refl _ _) .nil hg
  rcases h with ⟨_, h⟩ | ⟨cv, w', h, _⟩
  · refine h.mono fun e w' he => ?_
    obtain ⟨cv, rfl, φ', _, h2, h3⟩ := he
    rw [hpl φ' cv h2]
    exact ⟨rfl, ⟨h3.os, h3.tape, h3.output, h3.size, fun k hk => h3.frame k hk fun b pl hh => nomatch hh⟩⟩
  · have := enters hf hb hn #[] W
    change (callFunc f #[]).run P W = _ at h
    rw [this] at h
    cases h
theorem vrel_bool {φ : Pmap} {b : Bool} {cv : Value} (h : VRel φ (.bool b) cv) : cv = .bool b := by cases h; rfl
end
end Go.Ab

namespace Go.Ab
noncomputable section
open Go
open Go.RowKit (Below)
def refsIn (p : Nat → Bool) : Nat → Value → Bool
  | 0, _ => false
  | d + 1, v => match v with
    | .bool _ | .int _ _ | .string _ | .float _ _ | .nilFunc | .nilIface | .pointer none | .slice none _ _ | .map none => true
    | .pointer (some a) => p a.block
    | .slice (some a) _ _ => p a.block
    | .map (some b) => p b
    | .func _ f c => f.toList.all (refsIn p d) && c.toList.all (refsIn p d)
    | .iface _ v => refsIn p d v
    | .agg cs => cs.toList.all (refsIn p d)
    | .tuple cs => cs.toList.all (refsIn p d)
    | _ => false
theorem refsIn_rel {φ φ' : Pmap} {p : Nat → Bool} (h : ∀ b, p b = true → φ' b = φ b) : ∀ (d : Nat) {v cv : Value}, refsIn p d v = true → VRel φ' v cv → VRel φ v cv := by
  intro d
  induction d with
  | zero => intro v cv hr; cases hr
  | succ d ih =>
    have all : ∀ {l cl : List Value}, l.all (refsIn p d) = true → VRels φ' l cl → VRels φ l cl := by
      intro l
      induction l with
      | nil => intro cl _ hl; cases hl; exact .nil
      | cons x l ihl =>
        intro cl hr hl
        simp only [List.all_cons, Bool.and_eq_true] at hr
        cases hl with
        | cons _ v' _ l' hv hl => exact .cons _ _ _ _ (ih hr.1 hv) (ihl hr.2 hl)
    intro v cv hr hv
    cases hv <;> simp only [refsIn] at hr
    case bool => exact .bool _
    case int => exact .int _ _
    case float => exact .float _ _
    case string => exact .string _
    case nilPtr => exact .nilPtr
    case ptr b o r B O pl hb hr' hp => exact .ptr b o r B O pl (by rw [← h b hr]; exact hb) hr' hp
    case nilSlice => exact .nilSlice
    case slice b o es k t B O cap pl hb hes hk hr' hp => exact .slice b o es k t B O cap pl (by rw [← h b hr]; exact hb) hes hk hr' hp
    case nilMap => exact .nilMap
    case map b R pl hb hp => exact .map b R pl (by rw [← h b hr]; exact hb) hp
    case func fn a c a' c' ha hc =>
      simp only [Bool.and_eq_true] at hr
      exact .func _ _ _ _ _ (all hr.1 ha) (all hr.2 hc)
    case nilFunc => exact .nilFunc
    case iface t x x' hx => exact .iface _ _ _ (ih hr hx)
    case nilIface => exact .nilIface
    case agg a a' ha => exact .agg _ _ (all hr ha)
    case tuple a a' ha => exact .tuple _ _ (all hr ha)
theorem refsIn_rels {φ φ' : Pmap} {p : Nat → Bool} (h : ∀ b, p b = true → φ' b = φ b) (d : Nat) : ∀ {l cl : List Value}, l.all (refsIn p d) = true → VRels φ' l cl → VRels φ l cl
  | [], _, _, .nil => .nil
  | _ :: _, _, hr, .cons _ _ _ _ hv hl => by
    simp only [List.all_cons, Bool.and_eq_true] at hr
    exact .cons _ _ _ _ (refsIn_rel h d hr.1 hv) (refsIn_rels h d hr.2 hl)
def refsObj (p : Nat → Bool) (d : Nat) : AObj → Bool
  | .cells c _ _ _ _ => c.all (refsIn p d)
  | .map es _ => es.all fun e => refsIn p d e.1 && refsIn p d e.2.1
  | .siter _ _ => true
  | .miter _ _ => false
def freeObj : AObj → Bool
  | .cells _ _ _ ro _ => !ro
  | _ => true
theorem freeObj_pl {φ : Pmap} {w : World} {pl : Pl} {o : AObj} (h : BRel φ w pl o) (hf : freeObj o = true) : pl.ro = false := by
  cases o with
  | cells c ver fro ro ty => rw [h.2.1]; simpa [freeObj] using hf
  | map es clock => exact h.2.1
  | siter s pos => exact h.2.1
  | miter _ _ => exact h.elim
theorem EntRel.swap {φ φ' : Pmap} {p : Nat → Bool} (h0 : ∀ b, p b = true → φ' b = φ b) {d : Nat} : ∀ {a : List (Value × Value × Nat)} {c : List MapEntry}, (a.all fun e => refsIn p d e.1 && refsIn p d e.2.1) = true → EntRel φ' a c → EntRel φ a c
  | [], _, _, h => by cases h; exact .nil
  | (k, v, n) :: l, _, hr, h => by
    cases h with
    | cons _ _ k' v' _ _ l' hk hv hl =>
      simp only [List.all_cons, Bool.and_eq_true] at hr
      exact .cons k v k' v' n l l' (refsIn_rel h0 d hr.1.1 hk) (refsIn_rel h0 d hr.1.2 hv) (EntRel.swap h0 hr.2 hl)
theorem BRel.swap {φ φ' : Pmap} {p : Nat → Bool} (h : ∀ b, p b = true → φ' b = φ b) {d : Nat} {w : World} {pl : Pl} {o : AObj} (hr : refsObj p d o = true) (k : BRel φ' w pl o) : BRel φ w pl o := by
  cases o with
  | cells c ver fro ro ty' =>
    obtain ⟨h1, h2, h3, C, ty, lo, hi, h4, h5, h6, h7⟩ := k
    refine ⟨h1, h2, h3, C, ty, lo, hi, h4, h5, fun i v a b => ?_, h7⟩
    obtain ⟨cv, x, y⟩ := h6 i v a b
    simp only [refsObj, List.all_eq_true] at hr
    exact ⟨cv, x, refsIn_rel h d (hr v (List.mem_of_getElem? b)) y⟩
  | map es clock =>
    obtain ⟨h1, h2, es', h3, h4⟩ := k
    exact ⟨h1, h2, es', h3, h4.swap h hr⟩
  | siter s pos => exact k
  | miter _ _ => exact k
theorem beqL_eq : ∀ {l k : List UInt8}, beqL l k = true → l = k
  | [], [], _ => rfl
  | a :: l, b :: k, h => by
    simp only [beqL] at h
    split at h
    · rename_i hb
      rw [UInt8.toNat_inj.mp (Nat.eq_of_beq_eq_true hb), beqL_eq h]
    · cases h
def vbeqs (q : Value → Value → Bool) : List Value → List Value → Bool
  | [], [] => true
  | a :: l, b :: k => (match q a b with | true => vbeqs q l k | false => false)
  | _, _ => false
theorem vbeqs_eq {q : Value → Value → Bool} (h : ∀ a b, q a b = true → a = b) : ∀ {l k : List Value}, vbeqs q l k = true → l = k
  | [], [], _ => rfl
  | a :: l, b :: k, hq => by
    simp only [vbeqs] at hq
    split at hq
    · rename_i hb
      rw [h _ _ hb, vbeqs_eq h hq]
    · cases hq
theorem kbeq_eq {a b : IntKind} (h : kbeq a b = true) : a = b := by cases a <;> cases b <;> first | rfl | cases h
def ibeq (a b : Int) : Bool := match a, b with | .ofNat n, .ofNat k => Nat.beq n k | .negSucc n, .negSucc k => Nat.beq n k | _, _ => false
theorem ibeq_eq {a b : Int} (h : ibeq a b = true) : a = b := by
  cases a <;> cases b <;> first | (rw [Nat.eq_of_beq_eq_true h]) | cases h
def obeq (a b : Option Nat) : Bool := match a, b with | none, none => true | some a, some b => Nat.beq a b | _, _ => false
theorem obeq_eq {a b : Option Nat} (h : obeq a b = true) : a = b := by
  cases a <;> cases b <;> first | rfl | (rw [Nat.eq_of_beq_eq_true h]) | cases h
def abeq (a b : Addr) : Bool := Nat.beq a.block b.block && (Nat.beq a.off b.off && obeq a.spot b.spot)
theorem abeq_eq {a b : Addr} (h : abeq a b = true) : a = b := by
  obtain ⟨a1, a2, a3⟩ := a
  obtain ⟨b1, b2, b3⟩ := b
  simp only [abeq, Bool.and_eq_true] at h
  rw [Nat.eq_of_beq_eq_true h.1, Nat.eq_of_beq_eq_true h.2.1, obeq_eq h.2.2]
def bbeq (a b : Bool) : Bool := match a, b with | true, true | false, false => true | _, _ => false
theorem bbeq_eq {a b : Bool} (h : bbeq a b = true) : a = b := by cases a <;> cases b <;> first | rfl | cases h
def vbeq : Nat → Value → Value → Bool
  | 0, _, _ => false
  | d + 1, a, b => match a, b with
    | .bool a, .bool b => bbeq a b
    | .int k n, .int k' n' => kbeq k k' && ibeq n n'
    | .string s, .string t => beqL s.data.toList t.data.toList
    | .pointer none, .pointer none => true
    | .pointer (some a), .pointer (some b) => abeq a b
    | .slice none n r, .slice none n' r' => Nat.beq n n' && Nat.beq r r'
    | .slice (some a) n r, .slice (some a') n' r' => abeq a a' && (Nat.beq n n' && Nat.beq r r')
    | .map none, .map none => true
    | .map (some b), .map (some b') => Nat.beq b b'
    | .nilFunc, .nilFunc => true
    | .nilIface, .nilIface => true
    | .iface t v, .iface t' v' => Nat.beq t t' && vbeq d v v'
    | .agg a, .agg b => vbeqs (vbeq d) a.toList b.toList
    | .tuple a, .tuple b => vbeqs (vbeq d) a.toList b.toList
    | .func (.func f) a c, .func (.func f') a' c' => Nat.beq f f' && (vbeqs (vbeq d) a.toList a'.toList && vbeqs (vbeq d) c.toList c'.toList)
    | _, _ => false
theorem vbeq_eq : ∀ (d : Nat) (a b : Value), vbeq d a b = true → a = b := by
  intro d
  induction d with
  | zero => intro a b h; cases h
  | succ d ih =>
    intro a b h
    unfold vbeq at h
    split at h
    · rw [bbeq_eq h]
    · simp only [Bool.and_eq_true] at h; rw [kbeq_eq h.1, ibeq_eq h.2]
    · rename_i s t
      have := beqL_eq h
      obtain ⟨⟨l⟩⟩ := s
      obtain ⟨⟨k⟩⟩ := t
      simp only at this
      rw [this]
    · rfl
    · rw [abeq_eq h]
    · simp only [Bool.and_eq_true] at h; rw [Nat.eq_of_beq_eq_true h.1, Nat.eq_of_beq_eq_true h.2]
    · simp only [Bool.and_eq_true] at h; rw [abeq_eq h.1, Nat.eq_of_beq_eq_true h.2.1, Nat.eq_of_beq_eq_true h.2.2]
    · rfl
    · rw [Nat.eq_of_beq_eq_true h]
    · rfl
    · rfl
    · simp only [Bool.and_eq_true] at h; rw [Nat.eq_of_beq_eq_true h.1, ih _ _ h.2]
    · rw [Array.ext' (vbeqs_eq ih h)]
    · rw [Array.ext' (vbeqs_eq ih h)]
    · simp only [Bool.and_eq_true] at h
      rw [Nat.eq_of_beq_eq_true h.1, Array.ext' (vbeqs_eq ih h.2.1), Array.ext' (vbeqs_eq ih h.2.2)]
    · cases h
def ebeqs (d : Nat) : List (Value × Value × Nat) → List (Value × Value × Nat) → Bool
  | [], [] => true
  | (a, b, n) :: l, (a', b', n') :: k => vbeq d a a' && (vbeq d b b' && (Nat.beq n n' && ebeqs d l k))
  | _, _ => false
theorem ebeqs_eq {d : Nat} : ∀ {l k : List (Value × Value × Nat)}, ebeqs d l k = true → l = k
  | [], [], _ => rfl
  | (a, b, n) :: l, (a', b', n') :: k, h => by
    simp only [ebeqs, Bool.and_eq_true] at h
    rw [vbeq_eq _ _ _ h.1, vbeq_eq _ _ _ h.2.1, Nat.eq_of_beq_eq_true h.2.2.1, ebeqs_eq h.2.2.2]
def objbeq (d : Nat) (a b : AObj) : Bool := match a, b with
  | .cells c v f r t, .cells c' v' f' r' t' => Nat.beq v v' && (Nat.beq f f' && (bbeq r r' && (obeq t t' && vbeqs (vbeq d) c c')))
  | .map e n, .map e' n' => Nat.beq n n' && ebeqs d e e'
  | .siter s p, .siter s' p' => Nat.beq p p' && beqL s.data.toList s'.data.toList
  | _, _ => false
theorem objbeq_eq {d : Nat} {a b : AObj} (h : objbeq d a b = true) : a = b := by
  unfold objbeq at h
  split at h
  · simp only [Bool.and_eq_true] at h
    rw [Nat.eq_of_beq_eq_true h.1, Nat.eq_of_beq_eq_true h.2.1, bbeq_eq h.2.2.1, obeq_eq h.2.2.2.1, vbeqs_eq (vbeq_eq d) h.2.2.2.2]
  · simp only [Bool.and_eq_true] at h
    rw [Nat.eq_of_beq_eq_true h.1, ebeqs_eq h.2]
  · rename_i s p s' p'
    simp only [Bool.and_eq_true] at h
    have := beqL_eq h.2
    obtain ⟨⟨l⟩⟩ := s
    obtain ⟨⟨k⟩⟩ := s'
    simp only at this
    rw [this, Nat.eq_of_beq_eq_true h.1]
  · cases h
def putAll : List (Nat × AObj) → Tr AObj → Tr AObj
  | [], t => t
  | (b, o) :: l, t => putAll l (Tr.put (b + 1) t (b + 1) o)
def lget : List (Nat × AObj) → Nat → Option AObj
  | [], _ => none
  | (b, o) :: l, c => match Nat.beq b c with | true => some o | false => lget l c
theorem get_putAll : ∀ (l : List (Nat × AObj)) (t : Tr AObj) (c : Nat), (∀ b o, (b, o) ∈ l → t.get (b + 1) = none ∨ True) → (putAll l t).get (c + 1) = match lget l.reverse c with | some o => some o | none => t.get (c + 1)
  | [], t, c, _ => rfl
  | (b, o) :: l, t, c, _ => by
    have ap : ∀ (k : List (Nat × AObj)) (x : Nat × AObj), lget (k ++ [x]) c = match lget k c with | some o => some o | none => (match Nat.beq x.1 c with | true => some x.2 | false => none) := by
      intro k x
      induction k with
      | nil => obtain ⟨x1, x2⟩ := x; simp [lget]
      | cons y k ih =>
        obtain ⟨y1, y2⟩ := y
        simp only [List.cons_append, lget]
        cases Nat.beq y1 c
        · exact ih
        · rfl
    rw [putAll, get_putAll l _ c (fun _ _ _ => .inr trivial), List.reverse_cons, ap]
    cases lget l.reverse c with
    | some o => rfl
    | none =>
      simp only
      rw [Tr.get_put _ _ _ _ _ (by omega) (by omega) (Nat.le_refl _)]
      cases hb : Nat.beq b c
      · have := Nat.ne_of_beq_eq_false hb
        simp [this]
      · have := Nat.eq_of_beq_eq_true hb
        simp [this]
theorem lget_mem : ∀ {l : List (Nat × AObj)} {c : Nat} {o : AObj}, lget l c = some o → (c, o) ∈ l
  | (b, o') :: l, c, o, h => by
    simp only [lget] at h
    split at h
    · rename_i hb
      cases h
      rw [Nat.eq_of_beq_eq_true hb]
      exact List.mem_cons_self
    · exact List.mem_cons_of_mem _ (lget_mem h)
structure Memo where
  f : FuncId
  args : List Value
  old : List (Nat × AObj)
  next : Nat
  v : Value
  new : List (Nat × AObj)
  next' : Nat
def Memo.mem (e : Memo) : Mem := ⟨e.next, e.next, putAll e.old .nil⟩
def inL (l : List (Nat × AObj)) (b : Nat) : Bool := match lget l b with | some _ => true | none => false
def Memo.good (e : Memo) : Bool :=
  e.args.all (refsIn (inL e.old.reverse) 9) && (e.old.all (fun x => refsObj (inL e.old.reverse) 9 x.2 && Nat.blt x.1 e.next) &&
  (refsIn (fun b => inL e.old.reverse b || inL e.new.reverse b) 9 e.v && (e.new.all (fun x => refsObj (fun b => inL e.old.reverse b || inL e.new.reverse b) 9 x.2 && (freeObj x.2 && (Nat.ble e.next x.1 && Nat.blt x.1 e.next'))) && Nat.ble e.next e.next')))
def holds (m : Mem) : List (Nat × AObj) → Bool
  | [] => true
  | (b, o) :: l => (match m.get b with | some o' => (match objbeq 9 o' o with | true => holds m l | false => false) | none => false)
theorem holds_get {m : Mem} : ∀ {l : List (Nat × AObj)}, holds m l = true → ∀ {b o}, (b, o) ∈ l → m.get b = some o
  | (b', o') :: l, h, b, o, hm => by
    simp only [holds] at h
    split at h
    · rename_i o2 h2
      split at h
      · rename_i hb
        rcases List.mem_cons.mp hm with e | e
        · cases e
          rw [h2, objbeq_eq hb]
        · exact holds_get h e
      · cases h
    · cases h
def Memo.so (e : Memo) (x : Option Rs) : Bool := match x with
  | some (v, m1) => (match vbeq 9 v e.v with | true => (match Nat.ble e.next m1.low with | true => (match Nat.beq m1.next e.next' with | true => holds m1 e.new | false => false) | false => false) | false => false)
  | none => false
def Memo.after (e : Memo) (m : Mem) : Mem := match e.new with
  | [] => m
  | _ => ⟨e.next', m.low, putAll e.new m.tr⟩
def Memo.nextOk (e : Memo) (m : Mem) : Bool := match e.new with | [] => true | _ => Nat.beq m.next e.next
def Memo.ov (e : Memo) : Over := fun f args m =>
  match Nat.beq f e.f with
  | false => none
  | true => match vbeqs (vbeq 9) args e.args with
    | false => none
    | true => match e.nextOk m with
      | false => none
      | true => match holds m e.old with
        | false => none
        | true => some (e.v, e.after m)
theorem inL_get {l : List (Nat × AObj)} {b : Nat} (h : inL l b = true) : ∃ o, lget l b = some o := by
  unfold inL at h
  split at h
  · rename_i o ho; exact ⟨o, ho⟩
  · cases h
theorem Memo.get_mem (e : Memo) (b : Nat) : e.mem.get b = lget e.old.reverse b := by
  unfold Memo.mem Mem.get
  simp only
  rw [get_putAll _ _ _ (fun _ _ _ => .inr trivial)]
  cases lget e.old.reverse b with
  | some o => rfl
  | none => simp [Tr.get_nil]
theorem Memo.get_after {e : Memo} {m : Mem} (b : Nat) : (e.after m).get b = match lget e.new.reverse b with | some o => some o | none => m.get b := by
  unfold Memo.after
  split
  · rename_i h; rw [h]; rfl
  · unfold Mem.get
    simp only
    rw [get_putAll _ _ _ (fun _ _ _ => .inr trivial)]
theorem Memo.low_after {e : Memo} {m : Mem} : (e.after m).low = m.low := by unfold Memo.after; split <;> rfl
theorem memo_ok {P : Program} {W0 : World} {g : Tab} (hT : TabSound P W0 g) {e : Memo} (hgood : e.good = true) (hso : e.so (g e.f e.args e.mem) = true) : OvSound P W0 e.ov := by
  intro φ m w f args cargs v m' hR hB hA hg
  -- what was found
  unfold Memo.so at hso
  split at hso
  case h_2 => cases hso
  rename_i v0 m1 hres
  split at hso
  case h_2 => cases hso
  rename_i hv0
  split at hso
  case h_2 => cases hso
  rename_i hlow
  split at hso
  case h_2 => cases hso
  rename_i hnx
  have hv0 := vbeq_eq _ _ _ hv0
  subst hv0
  have hlow := Nat.le_of_ble_eq_true hlow
  have hnx := Nat.eq_of_beq_eq_true hnx
  -- well made
  unfold Memo.good at hgood
  simp only [Bool.and_eq_true] at hgood
  obtain ⟨g1, g2, g3, g4, g5⟩ := hgood
  have g5 := Nat.le_of_ble_eq_true g5
  -- asked so
  simp only [Memo.ov] at hg
  split at hg
  · cases hg
  rename_i hf
  split at hg
  · cases hg
  rename_i hargs
  split at hg
  · cases hg
  rename_i hnext
  split at hg
  · cases hg
  rename_i hold
  cases hg
  have hf := Nat.eq_of_beq_eq_true hf
  have hargs := vbeqs_eq (vbeq_eq 9) hargs
  subst hf
  subst hargs
  have nexteq : e.new ≠ [] → m.next = e.next := by
    intro hne
    unfold Memo.nextOk at hnext
    split at hnext
    · rename_i h0; exact absurd h0 hne
    · exact Nat.eq_of_beq_eq_true hnext
  -- the small map
  let φ0 : Pmap := fun b => if inL e.old.reverse b = true then φ b else none
  have in0 : ∀ b, inL e.old.reverse b = true → φ0 b = φ b := fun b h => if_pos h
  have in0' : ∀ b pl, φ0 b = some pl → inL e.old.reverse b = true ∧ φ b = some pl := by
    intro b pl h
    by_cases hb : inL e.old.reverse b = true
    · exact ⟨hb, by rw [← in0 b hb]; exact h⟩
    · have : φ0 b = none := if_neg hb
      rw [this] at h; cases h
  have oldget : ∀ b o, lget e.old.reverse b = some o → m.get b = some o ∧ refsObj (inL e.old.reverse) 9 o = true ∧ b < e.next := by
    intro b o h
    have hm := List.mem_reverse.mp (lget_mem h)
    have := List.all_eq_true.mp g2 _ hm
    simp only [Bool.and_eq_true] at this
    refine ⟨holds_get hold hm, this.1, ?_⟩
    have h2 := this.2
    simp only [Nat.blt, Nat.ble_eq] at h2
    omega
  have newget : ∀ b o, lget e.new.reverse b = some o → m1.get b = some o ∧ refsObj (fun b => inL e.old.reverse b || inL e.new.reverse b) 9 o = true ∧ freeObj o = true ∧ e.next ≤ b ∧ b < e.next' := by
    intro b o h
    have hm := List.mem_reverse.mp (lget_mem h)
    have := List.all_eq_true.mp g4 _ hm
    simp only [Bool.and_eq_true] at this
    refine ⟨holds_get hso hm, this.1, this.2.1, Nat.le_of_ble_eq_true this.2.2.1, ?_⟩
    have h2 := this.2.2.2
    simp only [Nat.blt, Nat.ble_eq] at h2
    omega
  have R0 : Rel W0.heap.size φ0 e.mem w := by
    refine ⟨fun b pl hb => ?_, fun b b' pl pl' hb hb' => hR.inj b b' pl pl' (in0' b pl hb).2 (in0' b' pl' hb').2, fun b pl hb => hR.base b pl (in0' b pl hb).2, hR.size, fun b hb => ?_⟩
    · obtain ⟨h1, h2⟩ := in0' b pl hb
      obtain ⟨o, ho⟩ := inL_get h1
      obtain ⟨q1, q2, q3⟩ := oldget b o ho
      obtain ⟨r1, o', r2, r3⟩ := hR.blocks b pl h2
      rw [q1] at r2
      cases r2
      exact ⟨q3, o, by rw [Memo.get_mem]; exact ho, r3.swap (fun b h => (in0 b h).symm) q2⟩
    · rw [Memo.get_mem]
      cases hl : lget e.old.reverse b with
      | none => rfl
      | some o => have := (oldget b o hl).2.2; have hb' : e.next ≤ b := hb; omega
  have A0 : VRels φ0 e.args cargs := refsIn_rels (fun b h => (in0 b h).symm) 9 g1 hA
  have key : ∀ cv w', After W0.heap.size φ0 e.mem w e.v m1 cv w' → After W0.heap.size φ m w e.v (e.after m) cv w' := by
    rintro cv w' ⟨φ1, R1, V1, S⟩
    -- the new blocks are above all that is old
    have newnext : ∀ b o, lget e.new.reverse b = some o → m.next ≤ b ∧ m.next = e.next := by
      intro b o h
      have hne : e.new ≠ [] := by
        intro h0
        rw [h0] at h
        cases h
      have : m.next = e.next := nexteq hne
      exact ⟨by rw [this]; exact (newget b o h).2.2.2.1, this⟩
    let φ' : Pmap := fun b => if b < m.next then φ b else if inL e.new.reverse b = true then φ1 b else none
    have oldmap : ∀ b, b < m.next → φ' b = φ b := fun b h => if_pos h
    have newmap : ∀ b, inL e.new.reverse b = true → φ' b = φ1 b := by
      intro b h
      obtain ⟨o, ho⟩ := inL_get h
      have := (newnext b o ho).1
      show (if b < m.next then φ b else if inL e.new.reverse b = true then φ1 b else none) = φ1 b
      rw [if_neg (by omega), if_pos h]
    have notmap : ∀ b, ¬ b < m.next → ¬ inL e.new.reverse b = true → φ' b = none := by
      intro b h k
      show (if b < m.next then φ b else if inL e.new.reverse b = true then φ1 b else none) = none
      rw [if_neg h, if_neg k]
    have le : φ.le φ' := fun b pl h => ⟨pl, by rw [oldmap b (hR.blocks b pl h).1]; exact h, .inl rfl⟩
    have same0 : ∀ b, inL e.old.reverse b = true → m1.get b = e.mem.get b ∧ φ1 b = φ0 b := by
      intro b h
      obtain ⟨o, ho⟩ := inL_get h
      have := (oldget b o ho).2.2
      exact S.same b (by omega) this
    have oldold : ∀ b, inL e.old.reverse b = true → φ' b = φ1 b := by
      intro b h
      obtain ⟨o, ho⟩ := inL_get h
      have h1 := (same0 b h).2
      rw [in0 b h] at h1
      rw [h1]
      by_cases hb : b < m.next
      · exact oldmap b hb
      · have hm := (oldget b o ho).1
        rw [hR.fresh b (by omega)] at hm
        cases hm
    have both : ∀ b, (inL e.old.reverse b || inL e.new.reverse b) = true → φ1 b = φ' b := by
      intro b h
      rcases Bool.or_eq_true _ _ ▸ h with h | h
      · exact (oldold b h).symm
      · exact (newmap b h).symm
    have newof : ∀ b pl, φ' b = some pl → ¬ b < m.next → ∃ o, lget e.new.reverse b = some o ∧ φ1 b = some pl ∧ pl.ro = false := by
      intro b pl h hb
      by_cases hn : inL e.new.reverse b = true
      · obtain ⟨o, ho⟩ := inL_get hn
        rw [newmap b hn] at h
        obtain ⟨q1, q2, q3, _⟩ := newget b o ho
        obtain ⟨_, o', h1, h2⟩ := R1.blocks b pl h
        rw [q1] at h1
        cases h1
        exact ⟨o, ho, h, freeObj_pl h2 q3⟩
      · rw [notmap b hb hn] at h; cases h
    have oldblk : ∀ b pl, φ b = some pl → pl.blk < w.heap.size := by
      intro b pl h
      obtain ⟨_, o, _, h3⟩ := hR.blocks b pl h
      exact h3.there
    have newinj : ∀ b b' pl pl', φ' b = some pl → ¬ b < m.next → φ b' = some pl' → pl.blk = pl'.blk → b = b' := by
      intro b b' pl pl' h hb h' he
      obtain ⟨o, ho, h1, hr⟩ := newof b pl h hb
      rcases S.img b pl h1 hr with ⟨b2, pl2, k1, k2, k3⟩ | k
      · obtain ⟨k4, k5⟩ := in0' b2 pl2 k1
        have e2 := hR.inj b2 b' pl2 pl' k5 h' k2 (k3.trans he)
        subst e2
        have : φ1 b2 = some pl2 := by rw [(same0 b2 k4).2]; exact k1
        exact R1.inj b b2 pl pl2 h1 this hr k3.symm
      · have := oldblk b' pl' h'
        omega
    refine ⟨φ', ⟨fun b pl hb => ?_, fun b b' pl pl' hb hb' hr he => ?_, fun b pl hb hr => ?_, Nat.le_trans hR.size S.size, fun b hb => ?_⟩, refsIn_rel (fun b h => both b h) 9 g3 V1,
      ⟨le, ?_, by rw [Memo.low_after]; exact Nat.le_refl _, fun b h1 h2 => ?_, S.os, S.tape, S.output, S.size, fun B hB hn => S.frame B hB (fun b pl hb hr => hn b pl (in0' b pl hb).2 hr), fun b pl hb hr => ?_, fun b h1 h2 => ?_⟩⟩
    · -- the blocks
      by_cases hlt : b < m.next
      · have hnew : lget e.new.reverse b = none := by
          cases hl : lget e.new.reverse b with
          | none => rfl
          | some o => have := (newnext b o hl).1; omega
        rw [oldmap b hlt] at hb
        obtain ⟨q1, o, q2, q3⟩ := hR.blocks b pl hb
        refine ⟨?_, o, by rw [Memo.get_after, hnew]; exact q2, ?_⟩
        · unfold Memo.after
          split
          · exact q1
          · rename_i hne
            have : m.next = e.next := nexteq hne
            have : b < e.next' := by omega
            exact this
        · by_cases hin : inL e.old.reverse b = true
          · obtain ⟨o', ho'⟩ := inL_get hin
            obtain ⟨p1, p2, p3⟩ := oldget b o' ho'
            rw [q2] at p1
            cases p1
            have hb1 : φ1 b = some pl := by rw [(same0 b hin).2, in0 b hin]; exact hb
            obtain ⟨_, o2, r2, r3⟩ := R1.blocks b pl hb1
            rw [(same0 b hin).1, Memo.get_mem, ho'] at r2
            cases r2
            exact r3.swap (fun b h => (oldold b h).symm) p2
          · refine (q3.of_heap (S.frame pl.blk (oldblk b pl hb) fun b' pl' hb' hr' he => ?_)).mono le
            obtain ⟨k1, k2⟩ := in0' b' pl' hb'
            have := hR.inj b' b pl' pl k2 hb hr' he
            subst this
            exact hin k1
      · obtain ⟨o, ho, h1, hr⟩ := newof b pl hb hlt
        obtain ⟨q1, q2, q3, q4, q5⟩ := newget b o ho
        obtain ⟨_, o', r1, r2⟩ := R1.blocks b pl h1
        rw [q1] at r1
        cases r1
        refine ⟨?_, o, by rw [Memo.get_after, ho], r2.swap (fun b h => both b h) q2⟩
        unfold Memo.after
        split
        · rename_i h0; rw [h0] at ho; cases ho
        · exact q5
    · -- injective
      by_cases hlt : b < m.next
      · rw [oldmap b hlt] at hb
        by_cases hlt' : b' < m.next
        · rw [oldmap b' hlt'] at hb'
          exact hR.inj b b' pl pl' hb hb' hr he
        · exact (newinj b' b pl' pl hb' hlt' hb he.symm).symm
      · by_cases hlt' : b' < m.next
        · rw [oldmap b' hlt'] at hb'
          exact newinj b b' pl pl' hb hlt hb' he
        · obtain ⟨_, _, h1, _⟩ := newof b pl hb hlt
          obtain ⟨_, _, h2, _⟩ := newof b' pl' hb' hlt'
          exact R1.inj b b' pl pl' h1 h2 hr he
    · by_cases hlt : b < m.next
      · rw [oldmap b hlt] at hb
        exact hR.base b pl hb hr
      · obtain ⟨_, _, h1, _⟩ := newof b pl hb hlt
        exact R1.base b pl h1 hr
    · rw [Memo.get_after]
      have hge : m.next ≤ b ∧ lget e.new.reverse b = none := by
        unfold Memo.after at hb
        split at hb
        · rename_i h0; rw [h0]; exact ⟨hb, rfl⟩
        · rename_i hne
          have : m.next = e.next := nexteq hne
          have hb' : e.next' ≤ b := hb
          refine ⟨by omega, ?_⟩
          cases hl : lget e.new.reverse b with
          | none => rfl
          | some o => have := (newget b o hl).2.2.2.2; omega
      rw [hge.2]
      exact hR.fresh b hge.1
    · unfold Memo.after
      split
      · exact Nat.le_refl _
      · rename_i hne
        have : m.next = e.next := nexteq hne
        show m.next ≤ e.next'
        omega
    · refine ⟨?_, oldmap b h2⟩
      rw [Memo.get_after]
      cases hl : lget e.new.reverse b with
      | none => rfl
      | some o => have := (newnext b o hl).1; omega
    · by_cases hlt : b < m.next
      · rw [oldmap b hlt] at hb
        exact .inl ⟨b, pl, hb, hr, rfl⟩
      · obtain ⟨_, _, h1, _⟩ := newof b pl hb hlt
        rcases S.img b pl h1 hr with ⟨b2, pl2, k1, k2, k3⟩ | k
        · exact .inl ⟨b2, pl2, (in0' b2 pl2 k1).2, k2, k3⟩
        · exact .inr k
    · refine ⟨by rw [oldmap b h1]; exact h2, ?_⟩
      rw [Memo.get_after]
      cases hl : lget e.new.reverse b with
      | none => rfl
      | some o => have := (newnext b o hl).1; omega
  have h := hT φ0 e.mem w e.f e.args cargs e.v m1 R0 hB A0 hres
  rcases h with ⟨h1, h2⟩ | ⟨cv, w', h1, h2⟩
  · exact .inl ⟨h1, h2.mono fun x w' ⟨cv, hx, ha⟩ => ⟨cv, hx, key cv w' ha⟩⟩
  · exact .inr ⟨cv, w', h1, key cv w' h2⟩
end
end Go.Ab

namespace Go.Ab
noncomputable section
open Go
open Go.RowKit (Below)
variable {P : Program} {W0 : World}
theorem var_kept {w : World} (hB : Below W0.heap.size W0 w) {n : String} {cs : Array Value} (h : W0.var? P n = some cs) : w.var? P n = some cs := by
  unfold World.var? at h ⊢
  cases hg : P.globalNamed n with
  | none => rw [hg] at h; cases h
  | some g =>
    rw [hg] at h
    simp only [Option.bind_some] at h ⊢
    have hlt : g < W0.heap.size := by
      rcases Nat.lt_or_ge g W0.heap.size with hh | hh
      · exact hh
      · rw [Array.getElem?_eq_none hh] at h; cases h
    rw [hB.block g hlt]
    exact h
theorem rel_newB {B0 : Nat} {φ : Pmap} {m : Mem} {w w1 : World} (h : Rel B0 φ m w) (hbl : Below w.heap.size w w1)
    (pl : Pl) (hblk : w.heap.size ≤ pl.blk) (o : AObj) (hb : BRel (φ.upd m.next pl) w1 pl o) :
    Rel B0 (φ.upd m.next pl) (m.push o) w1 ∧ Stp φ m w (φ.upd m.next pl) (m.push o) w1 := by
  have hfresh : ∀ pl', φ m.next ≠ some pl' := fun pl' hx => by have := (h.blocks _ _ hx).1; omega
  have hle : φ.le (φ.upd m.next pl) := fun b p hb => ⟨p, by rw [Pmap.upd_other pl (fun x => hfresh p (by rw [← x]; exact hb)), hb], .inl rfl⟩
  have hold : ∀ B, B < w.heap.size → w1.heap[B]? = w.heap[B]? := fun B hB => hbl.block B hB
  refine ⟨⟨fun b p hp => ?_, fun b b' p p' hp hp' hr heq => ?_, fun b p hp hr => ?_, Nat.le_trans h.size hbl.size, fun b hb => by rw [Mem.get_push, if_neg (by simp at hb; omega)]; exact h.fresh b (by simp at hb; omega)⟩, ?_⟩
  · by_cases hbn : b = m.next
    · subst hbn
      rw [Pmap.upd_same] at hp
      cases hp
      exact ⟨by simp, o, by rw [Mem.get_push, if_pos rfl], hb⟩
    · rw [Pmap.upd_other pl hbn] at hp
      obtain ⟨h1, o', h2, h3⟩ := h.blocks b p hp
      refine ⟨by simp; omega, o', by rw [Mem.get_push, if_neg (Ne.symm hbn)]; exact h2, ?_⟩
      exact (h3.mono hle).of_heap (hold _ h3.there)
  · by_cases hbn : b = m.next
    · by_cases hbn' : b' = m.next
      · rw [hbn, hbn']
      · subst hbn
        rw [Pmap.upd_same] at hp
        rw [Pmap.upd_other pl hbn'] at hp'
        cases hp
        obtain ⟨_, o', _, h3⟩ := h.blocks b' p' hp'
        have := h3.there
        omega
    · by_cases hbn' : b' = m.next
      · subst hbn'
        rw [Pmap.upd_same] at hp'
        rw [Pmap.upd_other pl hbn] at hp
        cases hp'
        obtain ⟨_, o', _, h3⟩ := h.blocks b p hp
        have := h3.there
        omega
      · rw [Pmap.upd_other pl hbn] at hp
        rw [Pmap.upd_other pl hbn'] at hp'
        exact h.inj b b' p p' hp hp' hr heq
  · by_cases hbn : b = m.next
    · subst hbn
      rw [Pmap.upd_same] at hp
      cases hp
      exact Nat.le_trans h.size hblk
    · rw [Pmap.upd_other pl hbn] at hp
      exact h.base b p hp hr
  · refine ⟨hle, by simp, by simp, fun b _ hb2 => ?_, hbl.os, hbl.tape, hbl.output, hbl.size, fun B hB _ => hold B hB, fun b p hp hr => ?_, fun b hb1 hb2 => ?_⟩
    · have hne : b ≠ m.next := by omega
      exact ⟨by rw [Mem.get_push, if_neg (Ne.symm hne)], Pmap.upd_other pl hne⟩
    · by_cases hbn : b = m.next
      · subst hbn
        rw [Pmap.upd_same] at hp
        cases hp
        exact .inr hblk
      · rw [Pmap.upd_other pl hbn] at hp
        exact .inl ⟨b, p, hp, hr, rfl⟩
    · have hne : b ≠ m.next := by omega
      exact ⟨by rw [Pmap.upd_other pl hne]; exact hb2, by rw [Mem.get_push, if_neg (Ne.symm hne)]⟩
theorem callsV_err {f : FuncId} {cargs : List Value} {φ : Pmap} {m : Mem} {w : World} {x : Value} {T : TypeId} (he : (callFunc f cargs.toArray).run P w = .ok (.enter f cargs.toArray) w) (hx : plainV x = true)
    (hc : Calls P f cargs.toArray w fun e w' => ∃ N, e = .returned (.tuple #[x, .iface T (.pointer (some ⟨N, 0, none⟩))]) ∧ w.heap.size ≤ N ∧ (∃ C ty, w'.heap[N]? = some (.cells C ty (0, 0))) ∧ Below w.heap.size w w') (hR : Rel W0.heap.size φ m w) :
    CallsV P f cargs w (After W0.heap.size φ m w (.tuple #[x, .iface T (.pointer (some ⟨m.next, 0, some 0⟩))]) (m.push (.cells [] 0 0 false none))) := by
  refine .inl ⟨he, hc.mono fun e w' h => ?_⟩
  obtain ⟨N, rfl, hN, ⟨C, ty, hC⟩, hb⟩ := h
  refine ⟨_, rfl, φ.upd m.next ⟨N, 0, 0, C.size, 0, false⟩, ?_⟩
  have hb2 : BRel (φ.upd m.next ⟨N, 0, 0, C.size, 0, false⟩) w' ⟨N, 0, 0, C.size, 0, false⟩ (.cells [] 0 0 false none) := by
    refine ⟨rfl, rfl, Nat.le_refl _, C, ty, 0, 0, hC, rfl, fun i v _ h => ?_, fun _ i _ _ _ => by omega, fun t h => by cases h⟩
    simp at h
  obtain ⟨h1, h2⟩ := rel_newB hR hb _ hN _ hb2
  refine ⟨h1, .tuple _ _ (.cons _ _ _ _ (plainV_rel hx) (.cons _ _ _ _ (.iface _ _ _ (.ptr m.next 0 0 N 0 _ (Pmap.upd_same _ _ _) (Nat.le_refl _) fun _ => ⟨rfl, Nat.le_refl _, rfl⟩)) .nil)), h2⟩
def dig : Nat → Nat → List UInt8 → List UInt8
  | 0, _, acc => acc
  | f + 1, n, acc => match Nat.blt n 10 with | true => UInt8.ofNat (48 + n) :: acc | false => dig f (n / 10) (UInt8.ofNat (48 + n % 10) :: acc)
theorem dig_eq : ∀ (f n : Nat) (acc : List UInt8), n < 10 ^ f → 1 ≤ f → dig f n acc = Lib.decDigits n ++ acc
  | 0, _, _, _, h => by omega
  | f + 1, n, acc, h, _ => by
    rw [Lib.decDigits]
    by_cases hn : n < 10
    · have : Nat.blt n 10 = true := by simp [Nat.blt, Nat.ble_eq]; omega
      simp only [dig, this, dif_pos hn]
      rfl
    · have : Nat.blt n 10 = false := by
        cases hb : Nat.blt n 10
        · rfl
        · simp [Nat.blt, Nat.ble_eq] at hb; omega
      have hf : 1 ≤ f := by
        rcases Nat.eq_zero_or_pos f with rfl | hh
        · simp at h; omega
        · exact hh
      simp only [dig, this, dif_neg hn]
      rw [dig_eq f (n / 10) _ (by rw [Nat.pow_succ] at h; omega) hf]
      simp
def itoaL (n : Int) : List UInt8 := match n with | .ofNat k => dig 20 k [] | .negSucc k => 45 :: dig 20 (k + 1) []
theorem itoaL_eq {n : Int} (h0 : -9223372036854775808 ≤ n) (h1 : n ≤ 9223372036854775807) : itoaL n = Lib.itoa n := by
  cases n with
  | ofNat k =>
    have hk : (k : Int) ≤ 9223372036854775807 := h1
    show dig 20 k [] = Lib.itoa (k : Int)
    rw [dig_eq 20 k [] (by omega) (by omega), List.append_nil, Lib.itoa, if_neg (by omega), Int.toNat_natCast]
  | negSucc k =>
    have e : Int.negSucc k = -((k : Int) + 1) := by omega
    have hk : -((k : Int) + 1) ≥ -9223372036854775808 := by rw [← e]; exact h0
    show 45 :: dig 20 (k + 1) [] = Lib.itoa (Int.negSucc k)
    rw [dig_eq 20 (k + 1) [] (by omega) (by omega), List.append_nil, Lib.itoa, if_pos (by omega)]
    have : (Int.negSucc k).natAbs = k + 1 := rfl
    rw [this]
def inI64 (n : Int) : Bool := match n with | .ofNat k => Nat.blt k 9223372036854775808 | .negSucc k => Nat.blt k 9223372036854775808
theorem inI64_iff {n : Int} (h : inI64 n = true) : -9223372036854775808 ≤ n ∧ n ≤ 9223372036854775807 := by
  cases n with
  | ofNat k =>
    simp [inI64, Nat.blt, Nat.ble_eq] at h
    constructor <;> (show _ ≤ _; simp only [Int.ofNat_eq_natCast]; omega)
  | negSucc k =>
    simp [inI64, Nat.blt, Nat.ble_eq] at h
    constructor <;> omega
def ovItoa (f0 : FuncId) : Over := fun f args m => match args with
  | [.int .i64 n] => if f = f0 ∧ inI64 n = true then some (.string ⟨(itoaL n).toArray⟩, m) else none
  | _ => none
theorem ovItoa_ok {f0 : FuncId} {fn : Func} {c : Code} (hf : P.funcs[f0]? = some fn) (hb : fn.body = some c) (hn : (fn.name == "runtime.NumGoroutine") = false) (htab : Lib.TabIs P W0 "internal/strconv.uint64pow10" .u64 Lib.pow10Tab)
    (hc : ∀ (n : Int) (w : World), -9223372036854775808 ≤ n → n ≤ 9223372036854775807 → Lib.TabIs P w "internal/strconv.uint64pow10" .u64 Lib.pow10Tab → Calls P f0 #[.int .i64 n] w fun e w' => e = .returned (.string ⟨(Lib.itoa n).toArray⟩) ∧ Below w.heap.size w w') : OvSound P W0 (ovItoa f0) := by
  intro φ m w f args cargs v m' hR hB hA hg
  simp only [ovItoa] at hg
  split at hg
  · rename_i n
    split at hg
    · rename_i h
      obtain ⟨rfl, hi⟩ := h
      simp only [Option.some.injEq, Prod.mk.injEq] at hg
      obtain ⟨rfl, rfl⟩ := hg
      obtain ⟨c1, rfl, h1⟩ := hA.ints1
      cases h1.nils
      obtain ⟨q1, q2⟩ := inI64_iff hi
      rw [itoaL_eq q1 q2]
      exact callsV_below (enters hf hb hn _ _) (hc n w q1 q2 (var_kept hB htab)) hR (.string _)
    · cases hg
  · cases hg
def errV (x : Value) (T : TypeId) (m : Mem) : Option Rs := some (.tuple #[x, .iface T (.pointer (some ⟨m.next, 0, some 0⟩))], m.push (.cells [] 0 0 false none))
def ovAtoi (f0 : FuncId) (T : TypeId) : Over := fun f args m => match args with
  | [.string s] => if f = f0 ∧ s.size ≤ 281474976710656 then (match Lib.atoiAll s.data.toList with
      | .ok v => some (.tuple #[.int .i64 v, .nilIface], m)
      | Lib.NumEnd.syntax => errV (.int .i64 0) T m
      | .range => errV (.int .i64 (Lib.atoiSat s.data.toList)) T m) else none
  | _ => none
theorem ovAtoi_ok {f0 : FuncId} {T : TypeId} {fn : Func} {c : Code} (hf : P.funcs[f0]? = some fn) (hb : fn.body = some c) (hn : (fn.name == "runtime.NumGoroutine") = false)
    {V : World → Prop} (hV : ∀ w, Below W0.heap.size W0 w → V w)
    (h1 : ∀ (s : ByteArray) (v : Int) (w : World), s.size ≤ 281474976710656 → Lib.atoiAll s.data.toList = .ok v → Calls P f0 #[.string s] w fun e w' => e = .returned (.tuple #[.int .i64 v, .nilIface]) ∧ Below w.heap.size w w')
    (h2 : ∀ (s : ByteArray) (w : World), s.size ≤ 281474976710656 → Lib.atoiAll s.data.toList = Lib.NumEnd.syntax → V w → Calls P f0 #[.string s] w fun e w' => ∃ N, e = .returned (.tuple #[.int .i64 0, .iface T (.pointer (some ⟨N, 0, none⟩))]) ∧ w.heap.size ≤ N ∧ (∃ C ty, w'.heap[N]? = some (.cells C ty (0, 0))) ∧ Below w.heap.size w w')
    (h3 : ∀ (s : ByteArray) (w : World), s.size ≤ 281474976710656 → Lib.atoiAll s.data.toList = .range → V w → Calls P f0 #[.string s] w fun e w' => ∃ N, e = .returned (.tuple #[.int .i64 (Lib.atoiSat s.data.toList), .iface T (.pointer (some ⟨N, 0, none⟩))]) ∧ w.heap.size ≤ N ∧ (∃ C ty, w'.heap[N]? = some (.cells C ty (0, 0))) ∧ Below w.heap.size w w') :
    OvSound P W0 (ovAtoi f0 T) := by
  intro φ m w f args cargs v m' hR hB hA hg
  simp only [ovAtoi] at hg
  split at hg
  · rename_i s
    split at hg
    · rename_i h
      obtain ⟨rfl, hs⟩ := h
      obtain ⟨c1, rfl, k1⟩ := hA.strings
      cases k1.nils
      split at hg
      · rename_i u hu
        simp only [Option.some.injEq, Prod.mk.injEq] at hg
        obtain ⟨rfl, rfl⟩ := hg
        exact callsV_below (enters hf hb hn _ _) (h1 s u w hs hu) hR (.tuple _ _ (.cons _ _ _ _ (.int _ _) (.cons _ _ _ _ .nilIface .nil)))
      · rename_i hu
        simp only [errV, Option.some.injEq, Prod.mk.injEq] at hg
        obtain ⟨rfl, rfl⟩ := hg
        exact callsV_err (enters hf hb hn _ _) rfl (h2 s w hs hu (hV w hB)) hR
      · rename_i hu
        simp only [errV, Option.some.injEq, Prod.mk.injEq] at hg
        obtain ⟨rfl, rfl⟩ := hg
        exact callsV_err (enters hf hb hn _ _) rfl (h3 s w hs hu (hV w hB)) hR
    · cases hg
  · cases hg
def ovPu (f0 : FuncId) (T : TypeId) (size : Int) (B : Nat) : Over := fun f args m => match args with
  | [.string s, .int .i64 ba, .int .i64 sz] => if f = f0 ∧ s.size ≤ 281474976710656 ∧ ba = 10 ∧ sz = size then (match Lib.parseUintB B s.data.toList with
      | .ok u => some (.tuple #[.int .u64 u, .nilIface], m)
      | Lib.NumEnd.syntax => errV (.int .u64 0) T m
      | .range => errV (.int .u64 (2 ^ B - 1 : Nat)) T m) else none
  | _ => none
theorem ovPu_ok {f0 : FuncId} {T : TypeId} {size : Int} {B : Nat} {fn : Func} {c : Code} (hf : P.funcs[f0]? = some fn) (hb : fn.body = some c) (hn : (fn.name == "runtime.NumGoroutine") = false)
    {V : World → Prop} (hV : ∀ w, Below W0.heap.size W0 w → V w)
    (h1 : ∀ (s : ByteArray) (u : Nat) (w : World), s.size ≤ 281474976710656 → Lib.parseUintB B s.data.toList = .ok u → Calls P f0 #[.string s, .int .i64 10, .int .i64 size] w fun e w' => e = .returned (.tuple #[.int .u64 u, .nilIface]) ∧ Below w.heap.size w w')
    (h2 : ∀ (s : ByteArray) (w : World), s.size ≤ 281474976710656 → Lib.parseUintB B s.data.toList = Lib.NumEnd.syntax → V w → Calls P f0 #[.string s, .int .i64 10, .int .i64 size] w fun e w' => ∃ N, e = .returned (.tuple #[.int .u64 0, .iface T (.pointer (some ⟨N, 0, none⟩))]) ∧ w.heap.size ≤ N ∧ (∃ C ty, w'.heap[N]? = some (.cells C ty (0, 0))) ∧ Below w.heap.size w w')
    (h3 : ∀ (s : ByteArray) (w : World), s.size ≤ 281474976710656 → Lib.parseUintB B s.data.toList = .range → V w → Calls P f0 #[.string s, .int .i64 10, .int .i64 size] w fun e w' => ∃ N, e = .returned (.tuple #[.int .u64 (2 ^ B - 1 : Nat), .iface T (.pointer (some ⟨N, 0, none⟩))]) ∧ w.heap.size ≤ N ∧ (∃ C ty, w'.heap[N]? = some (.cells C ty (0, 0))) ∧ Below w.heap.size w w') :
    OvSound P W0 (ovPu f0 T size B) := by
  intro φ m w f args cargs v m' hR hB hA hg
  simp only [ovPu] at hg
  split at hg
  · rename_i s ba sz
    split at hg
    · rename_i h
      obtain ⟨rfl, hs, rfl, rfl⟩ := h
      obtain ⟨c1, rfl, k1⟩ := hA.strings
      obtain ⟨c2, rfl, k2⟩ := k1.ints1
      obtain ⟨c3, rfl, k3⟩ := k2.ints1
      cases k3.nils
      split at hg
      · rename_i u hu
        simp only [Option.some.injEq, Prod.mk.injEq] at hg
        obtain ⟨rfl, rfl⟩ := hg
        exact callsV_below (enters hf hb hn _ _) (h1 s u w hs hu) hR (.tuple _ _ (.cons _ _ _ _ (.int _ _) (.cons _ _ _ _ .nilIface .nil)))
      · rename_i hu
        simp only [errV, Option.some.injEq, Prod.mk.injEq] at hg
        obtain ⟨rfl, rfl⟩ := hg
        exact callsV_err (enters hf hb hn _ _) rfl (h2 s w hs hu (hV w hB)) hR
      · rename_i hu
        simp only [errV, Option.some.injEq, Prod.mk.injEq] at hg
        obtain ⟨rfl, rfl⟩ := hg
        exact callsV_err (enters hf hb hn _ _) rfl (h3 s w hs hu (hV w hB)) hR
    · cases hg
  · cases hg
def strsOf : List Value → Option (List ByteArray)
  | [] => some []
  | .string s :: r => (match strsOf r with | some l => some (s :: l) | none => none)
  | _ => none
theorem strsOf_rel {φ : Pmap} : ∀ {cs ccs : List Value} {l : List ByteArray}, strsOf cs = some l → VRels φ cs ccs → ccs = l.map .string ∧ cs.length = l.length
  | [], _, l, h, hv => by
    cases hv
    simp only [strsOf, Option.some.injEq] at h
    subst h
    exact ⟨rfl, rfl⟩
  | v :: r, _, l, h, hv => by
    cases hv with
    | cons _ v' _ l' hv hl =>
      cases v with
      | string s =>
        simp only [strsOf] at h
        split at h
        · rename_i l2 h2
          cases h
          obtain ⟨e1, e2⟩ := strsOf_rel h2 hl
          cases hv
          exact ⟨by rw [e1]; rfl, by simp [e2]⟩
        · cases h
      | _ => cases h
def joinOf (l : List ByteArray) (sep : ByteArray) : List UInt8 := Lib.join (l.map (·.data.toList)) sep.data.toList
def ovJoin (f0 : FuncId) : Over := fun f args m => match args with
  | [.slice none 0 0, .string _] => if f = f0 then some (.string ⟨#[]⟩, m) else none
  | [.slice (some a) n r, .string sep] => if f = f0 then (match getCells m ⟨a.block, a.off, some (r / 2)⟩ n with
      | some cs => (match strsOf cs with
        | some l => (match Nat.ble n 140737488355328 && Nat.ble (joinOf l sep).length 140737488355328 with
          | true => some (.string ⟨(joinOf l sep).toArray⟩, m)
          | false => none)
        | none => none)
      | none => none) else none
  | _ => none
theorem ovJoin_ok {f0 : FuncId} {fn : Func} {c : Code} (hf : P.funcs[f0]? = some fn) (hb : fn.body = some c) (hn : (fn.name == "runtime.NumGoroutine") = false)
    (h0 : ∀ (a : Option Addr) (c : Nat) (sep : ByteArray) (w : World), Calls P f0 #[.slice a 0 c, .string sep] w fun e w' => e = .returned (.string ⟨#[]⟩) ∧ w' = w)
    (h1 : ∀ (bk o c : Nat) (xs : List ByteArray) (sep : ByteArray) (w : World), (∀ (j : Nat) x, xs[j]? = some x → w.cell? ⟨bk, o + j, none⟩ = some (.string x)) → bk < w.heap.size → xs.length ≤ 140737488355328 → xs.length ≤ c →
      (Lib.join (xs.map (·.data.toList)) sep.data.toList).length ≤ 140737488355328 →
      Calls P f0 #[.slice (some ⟨bk, o, none⟩) xs.length c, .string sep] w fun e w' => e = .returned (.string ⟨(Lib.join (xs.map (·.data.toList)) sep.data.toList).toArray⟩) ∧ Below w.heap.size w w') : OvSound P W0 (ovJoin f0) := by
  intro φ m w f args cargs v m' hR hB hA hg
  simp only [ovJoin] at hg
  split at hg
  · rename_i sep
    split at hg
    · rename_i h
      subst h
      simp only [Option.some.injEq, Prod.mk.injEq] at hg
      obtain ⟨rfl, rfl⟩ := hg
      cases hA with
      | cons _ v' _ l' hv hl =>
        cases hv
        obtain ⟨c2, rfl, k2⟩ := hl.strings
        cases k2.nils
        exact callsV_same (enters hf hb hn _ _) (h0 none 0 sep w) hR (.string _)
    · cases hg
  · rename_i a n r sep
    split at hg
    · rename_i h
      subst h
      split at hg
      · rename_i cs hcs
        split at hg
        · rename_i l hl
          split at hg
          · rename_i hbd
            simp only [Option.some.injEq, Prod.mk.injEq] at hg
            obtain ⟨rfl, rfl⟩ := hg
            simp only [Bool.and_eq_true] at hbd
            have b1 := Nat.le_of_ble_eq_true hbd.1
            have b2 := Nat.le_of_ble_eq_true hbd.2
            cases hA with
            | cons _ v' _ l' hv hl' =>
              obtain ⟨c2, rfl, k2⟩ := hl'.strings
              cases k2.nils
              have hlen : cs.length = n := by
                rw [getCells_eq] at hcs; unfold getCellsO at hcs
                split at hcs
                · split at hcs
                  · rename_i hh
                    simp only [Bool.and_eq_true, decide_eq_true_eq] at hh
                    simp only [Option.some.injEq] at hcs
                    rw [← hcs]
                    simp only [List.length_take, List.length_drop]
                    have := hh.2
                    omega
                  · cases hcs
                · cases hcs
              cases hv with
              | slice b o es _ t B O cap pl hbm hes hnc hr hpp =>
                by_cases hn0 : n = 0
                · subst hn0
                  have hl0 : l = [] := by
                    cases cs with
                    | nil => simp only [strsOf, Option.some.injEq] at hl; exact hl.symm
                    | cons x y => simp at hlen
                  subst hl0
                  exact callsV_same (enters hf hb hn _ _) (h0 _ cap sep w) hR (.string _)
                · have hcap : cap ≠ 0 := by omega
                  have hp : VRel φ (.pointer (some ⟨b, o, some (r / 2)⟩)) (.pointer (some ⟨B, O, none⟩)) := by
                    refine .ptr b o (r / 2) B O pl hbm hr fun e => ?_
                    obtain ⟨q, _⟩ := hpp e
                    rcases q with q | ⟨q1, q2, q3, _⟩
                    · exact absurd q hcap
                    · exact ⟨q1, q2, q3⟩
                  obtain ⟨ccs, v1, v2, v3⟩ := getCells_ok hR hp hcs
                  obtain ⟨e1, e2⟩ := strsOf_rel hl v1
                  have hll : l.length = n := by rw [← e2]; exact hlen
                  have hcell : ∀ (j : Nat) x, l[j]? = some x → w.cell? ⟨B, O + j, none⟩ = some (.string x) := by
                    intro j x hj
                    have := v3 j (.string x) (by rw [e1, List.getElem?_map, hj]; rfl)
                    rw [Addr.add_none] at this
                    exact this
                  have hB' : B < w.heap.size := by
                    have h0 : 0 < l.length := by omega
                    have hc0 := hcell 0 l[0] (by simp)
                    rcases Nat.lt_or_ge B w.heap.size with hh | hh
                    · exact hh
                    · unfold World.cell? at hc0
                      simp only at hc0
                      rw [Array.getElem?_eq_none hh] at hc0
                      cases hc0
                  have hcc := h1 B O cap l sep w hcell hB' (by omega) (by omega) b2
                  rw [hll] at hcc
                  exact callsV_below (enters hf hb hn _ _) hcc hR (.string _)
          · cases hg
        · cases hg
      · cases hg
    · cases hg
  · cases hg
def ovCmp (f0 : FuncId) (cmp : List UInt8 → List UInt8 → Int) : Over := fun f args m => match args with
  | [.string a, .string b] => if f = f0 then some (.int .i64 (cmp a.data.toList b.data.toList), m) else none
  | _ => none
theorem ovCmp_ok {f0 : FuncId} {cmp : List UInt8 → List UInt8 → Int} (he : ∀ (a b : ByteArray) (w : World), (callFunc f0 #[.string a, .string b]).run P w = .ok (.value (.int .i64 (cmp a.data.toList b.data.toList))) w) : OvSound P W0 (ovCmp f0 cmp) := by
  intro φ m w f args cargs v m' hR hB hA hg
  simp only [ovCmp] at hg
  split at hg
  · rename_i a b
    split at hg
    · rename_i h
      subst h
      simp only [Option.some.injEq, Prod.mk.injEq] at hg
      obtain ⟨rfl, rfl⟩ := hg
      obtain ⟨c1, rfl, h1⟩ := hA.strings
      obtain ⟨c2, rfl, h2⟩ := h1.strings
      cases h2.nils
      exact callsV_at (he a b w) hR (.int _ _)
    · cases hg
  · cases hg
def asciiL : List UInt8 → Bool
  | [] => true
  | b :: r => (match Nat.blt b.toNat 128 with | true => asciiL r | false => false)
theorem asciiL_at : ∀ {l : List UInt8}, asciiL l = true → ∀ (j : Nat) b, l[j]? = some b → b.toNat < 128
  | [], _, j, b, h => by simp at h
  | c :: r, h, j, b, hb => by
    simp only [asciiL] at h
    split at h
    · rename_i hc
      rw [nblt, decide_eq_true_eq] at hc
      cases j with
      | zero => simp at hb; subst hb; exact hc
      | succ j => exact asciiL_at h j b (by simpa using hb)
    · cases h
def fieldsV (s : List UInt8) : List Value := (Lib.fields s).map fun l => Value.string ⟨l.toArray⟩
def ovFields (f0 : FuncId) : Over := fun f args m => match args with
  | [.string s] => if f = f0 then (match Nat.blt s.size 4294967281 && asciiL s.data.toList with
      | true => some (.slice (some ⟨m.next, 0, some 1⟩) (fieldsV s.data.toList).length 1, m.push (.cells (fieldsV s.data.toList) 0 0 false none))
      | false => none) else none
  | _ => none
theorem ovFields_ok {f0 : FuncId} {fn : Func} {c : Code} {ty : TypeId} {tab : World → Prop} (hf : P.funcs[f0]? = some fn) (hb : fn.body = some c) (hn : (fn.name == "runtime.NumGoroutine") = false) (htab : ∀ w, Below W0.heap.size W0 w → tab w)
    (hc : ∀ (s : ByteArray) (w : World), s.size < 4294967281 → (∀ (j : Nat) b, s.data.toList[j]? = some b → b.toNat < 128) → tab w →
      Calls P f0 #[.string s] w fun e w' => e = .returned (.slice (some ⟨w.heap.size, 0, none⟩) (Lib.fields s.data.toList).length (Lib.fields s.data.toList).length) ∧ w' = w.alloc (.cells ((Lib.fields s.data.toList).map fun l => Value.string ⟨l.toArray⟩).toArray ty)) :
    OvSound P W0 (ovFields f0) := by
  intro φ m w f args cargs v m' hR hB hA hg
  simp only [ovFields] at hg
  split at hg
  · rename_i s
    split at hg
    · rename_i h
      subst h
      split at hg
      · rename_i hs
        simp only [Bool.and_eq_true] at hs
        have hs1 : s.size < 4294967281 := by have := hs.1; rw [nblt, decide_eq_true_eq] at this; exact this
        simp only [Option.some.injEq, Prod.mk.injEq] at hg
        obtain ⟨rfl, rfl⟩ := hg
        obtain ⟨c1, rfl, h1⟩ := hA.strings
        cases h1.nils
        refine .inl ⟨enters hf hb hn _ _, (hc s w hs1 (asciiL_at hs.2) (htab w hB)).mono fun e w' he => ?_⟩
        obtain ⟨rfl, rfl⟩ := he
        have hlen : (fieldsV s.data.toList).length = (Lib.fields s.data.toList).length := by simp [fieldsV]
        refine ⟨_, rfl, φ.upd m.next ⟨w.heap.size, 0, 0, (fieldsV s.data.toList).length, 0, false⟩, ?_⟩
        have hb2 : BRel (φ.upd m.next ⟨w.heap.size, 0, 0, (fieldsV s.data.toList).length, 0, false⟩) (w.alloc (.cells (fieldsV s.data.toList).toArray ty)) ⟨w.heap.size, 0, 0, (fieldsV s.data.toList).length, 0, false⟩ (.cells (fieldsV s.data.toList) 0 0 false none) := by
          refine ⟨rfl, rfl, Nat.zero_le _, (fieldsV s.data.toList).toArray, ty, 0, 0, Array.getElem?_push_size, rfl, fun i v _ hv => ?_, fun _ i _ _ _ => by omega, fun t h => by cases h⟩
          refine ⟨v, by simpa using hv, ?_⟩
          have hm := List.mem_of_getElem? hv
          simp only [fieldsV, List.mem_map] at hm
          obtain ⟨l, _, rfl⟩ := hm
          exact .string _
        obtain ⟨q1, q2⟩ := rel_push hR (.cells (fieldsV s.data.toList).toArray ty) (w1 := w.alloc (.cells (fieldsV s.data.toList).toArray ty)) rfl rfl rfl rfl _ rfl _ hb2
        refine ⟨q1, ?_, q2⟩
        rw [← hlen]
        exact .slice m.next 0 1 _ 1 w.heap.size 0 _ _ (Pmap.upd_same _ _ _) (Nat.le_refl _) (Nat.le_refl _) (Nat.zero_le _) fun _ => ⟨.inr ⟨rfl, Nat.zero_le _, rfl, by simp⟩, fun _ => rfl⟩
      · cases hg
    · cases hg
  · cases hg
end
end Go.Ab

namespace Go.Ab
noncomputable section
open Go
variable {P : Program} {W0 : World}
def Tr.All {α : Type} (p : α → Prop) : Tr α → Prop
  | .nil => True
  | .node v l r => (match v with | some x => p x | none => True) ∧ l.All p ∧ r.All p
theorem Tr.All.get {α : Type} {p : α → Prop} : ∀ {t : Tr α}, t.All p → ∀ {k : Nat} {x : α}, t.get k = some x → p x
  | .nil, _, k, x, h => by simp [Tr.get_nil] at h
  | .node v l r, ha, k, x, h => by
    simp only [Tr.get_node, bifbeq] at h
    split at h
    · have h1 := ha.1
      rw [h] at h1
      exact h1
    · split at h
      · exact ha.2.1.get h
      · exact ha.2.2.get h
def ovTr (t : Tr Over) : Over := fun f args m => Option.rec none (fun o => o f args m) (t.get (Nat.succ f))
theorem ovTr_eq (t : Tr Over) (f : FuncId) (args : List Value) (m : Mem) : ovTr t f args m = match t.get (f + 1) with | some o => o f args m | none => none := by
  show (Option.rec none (fun o => o f args m) (t.get (f + 1)) : Option Rs) = _
  cases t.get (f + 1) <;> rfl
theorem ovTr_ok {t : Tr Over} (h : t.All (OvSound P W0)) : OvSound P W0 (ovTr t) := by
  intro φ m w f args cargs v m' hR hB hA hg
  simp only [ovTr_eq] at hg
  split at hg
  · rename_i o ho
    exact h.get ho φ m w f args cargs v m' hR hB hA hg
  · cases hg
def memos : List Memo → Over
  | [] => fun _ _ _ => none
  | e :: l => orElse e.ov (memos l)
theorem memos_ok : ∀ {l : List Memo}, (∀ e ∈ l, OvSound P W0 e.ov) → OvSound P W0 (memos l)
  | [], _ => none_ok
  | e :: _, h => orElse_ok (h e List.mem_cons_self) (memos_ok fun x hx => h x (List.mem_cons_of_mem _ hx))
theorem ov_of_tab {g : Tab} (hT : TabSound P W0 g) {o : Over} (h : ∀ f args m r, o f args m = some r → g f args m = some r) : OvSound P W0 o :=
  fun φ m w f args cargs v m' hR hB hA hg => hT φ m w f args cargs v m' hR hB hA (h f args m _ hg)
theorem Tr.All.e {α : Type} {p : α → Prop} : (Tr.nil : Tr α).All p := trivial
theorem Tr.All.n {α : Type} {p : α → Prop} {l r : Tr α} (hl : l.All p) (hr : r.All p) : (Tr.node none l r).All p := ⟨trivial, hl, hr⟩
theorem Tr.All.s {α : Type} {p : α → Prop} {x : α} {l r : Tr α} (hx : p x) (hl : l.All p) (hr : r.All p) : (Tr.node (some x) l r).All p := ⟨hx, hl, hr⟩
theorem memos_e : OvSound P W0 (memos []) := none_ok
theorem memos_s {e : Memo} {l : List Memo} (h : OvSound P W0 e.ov) (k : OvSound P W0 (memos l)) : OvSound P W0 (memos (e :: l)) := orElse_ok h k
end
end Go.Ab

namespace Go.Ab
noncomputable section
open Go
def ixB : List UInt8 → Nat → Nat → Option Nat
  | [], _, _ => none
  | b :: l, c, i => match Nat.beq b.toNat c with | true => some i | false => forceN (i + 1) fun i => ixB l c i
theorem ixB_eq (c : UInt8) : ∀ (l : List UInt8) (i : Nat), ixB l c.toNat i = if Lib.indexByte l c = -1 then none else some (i + (Lib.indexByte l c).toNat)
  | [], i => by simp [ixB, Lib.indexByte]
  | b :: l, i => by
    have hge := Lib.indexByte_ge l c
    simp only [ixB, nbeq, forceN_eq]
    by_cases h : b = c
    · subst h
      simp [Lib.indexByte]
    · have hn : ¬ b.toNat = c.toNat := fun x => h (UInt8.toNat_inj.mp x)
      have hb : (b == c) = false := by simpa using h
      simp only [hn, decide_false, ixB_eq c l, Lib.indexByte, hb, Bool.false_eq_true, if_false]
      by_cases h1 : Lib.indexByte l c = -1
      · simp [h1]
      · have hb1 : (Lib.indexByte l c == -1) = false := by simpa using h1
        have h2 : ¬ Lib.indexByte l c + 1 = -1 := by omega
        simp only [h1, hb1, h2, if_false, Bool.false_eq_true, Option.some.injEq]
        omega
def ixByteV (s : List UInt8) (c : Int) : Value := forceN (c.toNat % 256) fun c => match ixB s c 0 with | some i => .int .i64 (.ofNat i) | none => .int .i64 (.negSucc 0)
theorem ixByteV_eq (s : List UInt8) (c : Int) : ixByteV s c = .int .i64 (Lib.indexByte s c.toNat.toUInt8) := by
  have e : c.toNat % 256 = c.toNat.toUInt8.toNat := by simp
  have hge := Lib.indexByte_ge s c.toNat.toUInt8
  unfold ixByteV
  rw [forceN_eq, e, ixB_eq]
  by_cases h : Lib.indexByte s c.toNat.toUInt8 = -1
  · rw [if_pos h, h]; rfl
  · rw [if_neg h]
    simp only [Nat.zero_add]
    congr 1
    show ((Lib.indexByte s c.toNat.toUInt8).toNat : Int) = _
    omega
def cntB : List UInt8 → Nat → Nat → Nat
  | [], _, n => n
  | b :: l, c, n => match Nat.beq b.toNat c with | true => forceN (n + 1) fun n => cntB l c n | false => cntB l c n
theorem cntB_eq (c : UInt8) : ∀ (l : List UInt8) (n : Nat), cntB l c.toNat n = n + Lib.countByte l c
  | [], n => by simp [cntB, Lib.countByte]
  | b :: l, n => by
    have ih := fun n => cntB_eq c l n
    simp only [Lib.countByte] at ih ⊢
    simp only [cntB, nbeq, forceN_eq, ih, List.count_cons]
    by_cases h : b = c
    · subst h; simp; omega
    · have hn : ¬ b.toNat = c.toNat := fun x => h (UInt8.toNat_inj.mp x)
      simp [hn, h]
def cntF (l : List UInt8) (c : UInt8) : Nat := forceN c.toNat fun c => cntB l c 0
theorem cntF_eq : cntF = Lib.countByte := by
  funext l c
  unfold cntF
  rw [forceN_eq, cntB_eq, Nat.zero_add]
def preB : List UInt8 → List UInt8 → Bool
  | [], _ => true
  | _ :: _, [] => false
  | a :: p, b :: l => match Nat.beq a.toNat b.toNat with | true => preB p l | false => false
theorem preB_eq : ∀ (p l : List UInt8), preB p l = p.isPrefixOf l
  | [], _ => by simp [preB]
  | _ :: _, [] => by simp [preB]
  | a :: p, b :: l => by
    simp only [preB, nbeq, List.isPrefixOf, preB_eq p l]
    by_cases h : a = b
    · subst h; simp
    · have hn : ¬ a.toNat = b.toNat := fun x => h (UInt8.toNat_inj.mp x)
      simp [hn, h]
def ixS (sub : List UInt8) : List UInt8 → Nat → Option Nat
  | [], i => (match sub with | [] => some i | _ :: _ => none)
  | b :: l, i => match preB sub (b :: l) with | true => some i | false => forceN (i + 1) fun i => ixS sub l i
theorem ixS_eq (sub : List UInt8) : ∀ (l : List UInt8) (i : Nat), ixS sub l i = if Lib.index l sub = -1 then none else some (i + (Lib.index l sub).toNat)
  | [], i => by cases sub <;> simp [ixS, Lib.index]
  | b :: l, i => by
    have hge := Lib.index_ge l sub
    simp only [ixS, preB_eq, forceN_eq, ixS_eq sub l, Lib.index]
    by_cases hp : sub.isPrefixOf (b :: l) = true
    · simp only [hp, if_true]
      simp
    · have hf : sub.isPrefixOf (b :: l) = false := Bool.eq_false_iff.mpr hp
      simp only [hf, Bool.false_eq_true, if_false]
      by_cases h1 : Lib.index l sub = -1
      · simp [h1]
      · have hb1 : (Lib.index l sub == -1) = false := by simpa using h1
        have h2 : ¬ Lib.index l sub + 1 = -1 := by omega
        simp only [h1, hb1, h2, if_false, Bool.false_eq_true, Option.some.injEq]
        omega
def ixF (s sub : List UInt8) : Int := match ixS sub s 0 with | some i => .ofNat i | none => .negSucc 0
theorem ixF_eq : ixF = Lib.index := by
  funext s sub
  have hge := Lib.index_ge s sub
  unfold ixF
  rw [ixS_eq]
  by_cases h : Lib.index s sub = -1
  · rw [if_pos h, h]; rfl
  · rw [if_neg h]
    simp only [Nat.zero_add]
    show ((Lib.index s sub).toNat : Int) = _
    omega
end
end Go.Ab
