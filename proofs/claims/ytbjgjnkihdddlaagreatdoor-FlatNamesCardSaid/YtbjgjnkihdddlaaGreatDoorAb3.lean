/-
  An evaluator over abstract memories, and that what it answers the machine answers. No conditions.
-/
import Derived.Test.YtbjgjnkihdddlaaGreatDoorAb2

namespace Go.Ab

theorem lenK_ok {P : Program} {B0 : Nat} {φ : Pmap} {m : Mem} {w : World} (hR : Rel B0 φ m w) {t ty : TypeId} {k : Nat} {d : TypeDesc} (ht : P.underlying t = some d) (hk : (k = 0 ∧ d = .string) ∨ (k = 1 ∧ ∃ e, d = .slice e) ∨ (k = 2 ∧ ∃ a e, d = .map a e))
    {x cx v : Value} (hx : VRel φ x cx) (hg : lenK k x m = some v) : ∃ cv, (Builtin.len_ #[t] ty #[cx]).run P w = .ok cv w ∧ VRel φ v cv := by
  have hd : d = .string ∨ (∃ e, d = .slice e) ∨ (∃ k e, d = .map k e) := by
    rcases hk with h | h | h
    · exact .inl h.2
    · exact .inr (.inl h.2)
    · exact .inr (.inr h.2)
  unfold lenK at hg
  split at hg
  · rcases hk with ⟨_, rfl⟩ | ⟨h, _⟩ | ⟨h, _⟩
    · exact len_ok hR ht hd hx rfl hg
    · cases h
    · cases h
  · rcases hk with ⟨h, _⟩ | ⟨_, e, rfl⟩ | ⟨h, _⟩
    · cases h
    · exact len_ok hR ht hd hx rfl hg
    · cases h
  · rcases hk with ⟨h, _⟩ | ⟨h, _⟩ | ⟨_, a, e, rfl⟩
    · cases h
    · cases h
    · exact len_ok hR ht hd hx rfl hg
  · cases hg

theorem VRels.one {φ : Pmap} {x : Value} {l : List Value} (h : VRels φ [x] l) : ∃ cx, l = [cx] ∧ VRel φ x cx := by
  cases h with
  | cons _ v' _ l' hv hl => cases hl; exact ⟨v', rfl, hv⟩
theorem VRels.two {φ : Pmap} {x y : Value} {l : List Value} (h : VRels φ [x, y] l) : ∃ cx cy, l = [cx, cy] ∧ VRel φ x cx ∧ VRel φ y cy := by
  cases h with
  | cons _ v' _ l' hv hl =>
    obtain ⟨cy, rfl, hy⟩ := hl.one
    exact ⟨v', cy, rfl, hv, hy⟩

theorem evBuiltin_ok {P : Program} {B0 : Nat} {φ : Pmap} {m m' : Mem} {w : World} (hR : Rel B0 φ m w) {b : Builtin} {tys : Array TypeId} {ty : TypeId} {cs : Array Bool} {args cargs : List Value} {v : Value} (ha : VRels φ args cargs)
    (hg : evBuiltin P b tys args m = some (v, m')) :
    ∃ cv w' φ', (builtin b tys ty cs cargs.toArray).run P w = .ok (.value cv) w' ∧ Rel B0 φ' m' w' ∧ VRel φ' v cv ∧ Stp φ m w φ' m' w' := by
  unfold evBuiltin at hg
  split at hg
  · rename_i x t htys
    have htys : tys = #[t] := by apply Array.ext'; exact htys
    subst htys
    obtain ⟨cx, rfl, hx⟩ := ha.one
    have fin : ∀ {cv : Value}, (Builtin.len_ #[t] ty #[cx]).run P w = .ok cv w → VRel φ v cv → m' = m → ∃ cv w' φ', (builtin .len #[t] ty cs #[cx]).run P w = .ok (.value cv) w' ∧ Rel B0 φ' m' w' ∧ VRel φ' v cv ∧ Stp φ m w φ' m' w' := fun {cv} h1 h2 h3 => by
      subst h3
      exact ⟨cv, w, φ, by simp [builtin, h1], hR, h2, .refl _ _ _⟩
    split at hg
    · rename_i ht
      obtain ⟨h1, h2⟩ := pur_some hg
      obtain ⟨cv, k1, k2⟩ := lenK_ok (ty := ty) hR ht (.inl ⟨rfl, rfl⟩) hx h1
      exact fin k1 k2 h2
    · rename_i e ht
      obtain ⟨h1, h2⟩ := pur_some hg
      obtain ⟨cv, k1, k2⟩ := lenK_ok (ty := ty) hR ht (.inr (.inl ⟨rfl, e, rfl⟩)) hx h1
      exact fin k1 k2 h2
    · rename_i a e ht
      obtain ⟨h1, h2⟩ := pur_some hg
      obtain ⟨cv, k1, k2⟩ := lenK_ok (ty := ty) hR ht (.inr (.inr ⟨rfl, a, e, rfl⟩)) hx h1
      exact fin k1 k2 h2
    · rename_i n e ht
      simp only [Option.some.injEq, Prod.mk.injEq] at hg
      obtain ⟨rfl, rfl⟩ := hg
      refine fin (cv := .int .i64 n) ?_ (.int _ _) rfl
      simp [Builtin.len_, run_underlying ht, goInt]
    · rename_i a ht
      split at hg
      · rename_i n e hta
        simp only [Option.some.injEq, Prod.mk.injEq] at hg
        obtain ⟨rfl, rfl⟩ := hg
        refine fin (cv := .int .i64 n) ?_ (.int _ _) rfl
        simp [Builtin.len_, run_underlying ht, run_underlying hta, goInt]
      · cases hg
    · cases hg
  · rename_i s x t xt htys
    have htys : tys = #[t, xt] := by apply Array.ext'; exact htys
    subst htys
    obtain ⟨cs', cx, rfl, hs, hx⟩ := ha.two
    split at hg
    · rename_i e ht
      split at hg
      · rename_i i z htz
        obtain ⟨q1, q2, q3, q4⟩ := tz_some htz
        have fin : ∀ d, P.underlying xt = some d → (d = .string ∨ ∃ e', d = .slice e') → ((∃ b, x = .string b) → i.size = 1) → aAppend e i.size i.bytes s x m = some (v, m') →
            ∃ cv w' φ', (builtin .append #[t, xt] ty cs #[cs', cx]).run P w = .ok (.value cv) w' ∧ Rel B0 φ' m' w' ∧ VRel φ' v cv ∧ Stp φ m w φ' m' w' := fun d h1 h2 h3 h4 => by
          obtain ⟨cv, w', φ', k1, k2, k3, k4⟩ := aAppend_ok (ty := ty) hR hs hx ht h1 h2 q1 q2 q4 h3 h4
          exact ⟨cv, w', φ', by simp [builtin, k1], k2, k3, k4⟩
        split at hg
        · rename_i hxt
          split at hg
          · rename_i h1
            exact fin _ hxt (.inl rfl) (fun _ => h1) hg
          · cases hg
        · rename_i e' hxt
          unfold apS at hg
          split at hg
          · cases hg
          · rename_i hns
            exact fin _ hxt (.inr ⟨e', rfl⟩) (fun ⟨b, hb⟩ => absurd hb (hns b)) hg
        · cases hg
      · cases hg
    · cases hg
  · rename_i s x t xt htys
    have htys : tys = #[t, xt] := by apply Array.ext'; exact htys
    subst htys
    obtain ⟨cs', cx, rfl, hs, hx⟩ := ha.two
    split at hg
    · rename_i e ht
      split at hg
      · rename_i i hi
        have fin : ((∃ b, x = .string b) → i.size = 1) → aCopy i.size s x m = some (v, m') →
            ∃ cv w' φ', (builtin .copy #[t, xt] ty cs #[cs', cx]).run P w = .ok (.value cv) w' ∧ Rel B0 φ' m' w' ∧ VRel φ' v cv ∧ Stp φ m w φ' m' w' := fun h3 h4 => by
          obtain ⟨cv, w', φ', k1, k2, k3, k4⟩ := copy_ok (xt := xt) (ty := ty) hR ht hi hs hx h3 h4
          exact ⟨cv, w', φ', by simp [builtin, k1], k2, k3, k4⟩
        split at hg
        · split at hg
          · rename_i h1
            exact fin (fun _ => h1) hg
          · cases hg
        · unfold cpS at hg
          split at hg
          · cases hg
          · rename_i hns
            exact fin (fun ⟨b, hb⟩ => absurd hb (hns b)) hg
        · cases hg
      · cases hg
    · cases hg
  · rename_i x htys
    obtain ⟨cx, rfl, hx⟩ := ha.one
    obtain ⟨h1, rfl⟩ := pur_some hg
    obtain ⟨cv, k1, k2⟩ := sliceData_ok (P := P) (ts := tys) (ty := ty) hR hx h1
    exact ⟨cv, w, φ, by simp [builtin, k1], hR, k2, .refl _ _ _⟩
  · rename_i x n pt it htys
    have htys : tys = #[pt, it] := by apply Array.ext'; exact htys
    subst htys
    obtain ⟨cx, cn, rfl, hx, hn⟩ := ha.two
    split at hg
    · rename_i e hpt
      split at hg
      · rename_i hc
        obtain ⟨cv, w', φ', k1, k2, k3, k4⟩ := unsafeString_ok (it := it) (ty := ty) hR hpt hc hx hn hg
        exact ⟨cv, w', φ', by simp [builtin, k1], k2, k3, k4⟩
      · cases hg
    · cases hg
  · rename_i x y htys
    obtain ⟨cx, cy, rfl, hx, hy⟩ := ha.two
    obtain ⟨h1, rfl⟩ := pur_some hg
    unfold aMax at h1
    split at h1
    · cases hx; cases hy
      split at h1
      · rename_i hk
        subst hk
        cases h1
        exact ⟨_, w, φ, by simp [builtin, Builtin.max_, Builtin.max2], hR, .int _ _, .refl _ _ _⟩
      · cases h1
    · cases h1
  · rename_i x y htys
    obtain ⟨cx, cy, rfl, hx, hy⟩ := ha.two
    obtain ⟨h1, rfl⟩ := pur_some hg
    unfold aMin at h1
    split at h1
    · cases hx; cases hy
      split at h1
      · rename_i hk
        subst hk
        cases h1
        exact ⟨_, w, φ, by simp [builtin, Builtin.min_, Builtin.min2], hR, .int _ _, .refl _ _ _⟩
      · cases h1
    · cases h1
  · cases hg

end Go.Ab

namespace Go.Ab

theorem arrOf_some {P : Program} {t : TypeId} {n : Nat} {e : TypeId} (h : arrOf P t = some (n, e)) : P.underlying t = some (.array n e) ∨ ∃ a, P.underlying t = some (.pointer a) ∧ P.underlying a = some (.array n e) := by
  unfold arrOf at h
  split at h
  · rename_i ht; cases h; exact .inl ht
  · rename_i a ht
    split at h
    · rename_i hta; cases h; exact .inr ⟨a, ht, hta⟩
    · cases h
  · cases h

set_option maxHeartbeats 2000000 in
theorem evOp_ok {P : Program} {B0 : Nat} {φ : Pmap} {m m' : Mem} {w : World} (hR : Rel B0 φ m w) {f cf : Operand → Value} (o : Oper) (hf : ∀ x ∈ o.op.operands.toList, VRel φ (f x) (cf x)) {v : Value}
    (hg : evOp P f m o = some (v, m')) : ∃ cv w' φ', Done P cf o w cv w' ∧ Rel B0 φ' m' w' ∧ VRel φ' v cv ∧ Stp φ m w φ' m' w' := by
  obtain ⟨dst, op, ty, pos, after, guard⟩ := o
  have pure_ : ∀ {cv : Value}, (execOp cf ⟨dst, op, ty, pos, after, guard⟩).run P w = .ok (.value cv) w → VRel φ v cv → m' = m → ∃ cv w' φ', Done P cf ⟨dst, op, ty, pos, after, guard⟩ w cv w' ∧ Rel B0 φ' m' w' ∧ VRel φ' v cv ∧ Stp φ m w φ' m' w' := fun {cv} h1 h2 h3 => by
    subst h3
    exact ⟨cv, w, φ, .inl h1, hR, h2, .refl _ _ _⟩
  unfold evOp at hg
  cases op <;> simp only at hg
  case move x =>
    simp only [Option.some.injEq, Prod.mk.injEq] at hg
    obtain ⟨rfl, rfl⟩ := hg
    exact pure_ (cv := cf x) (by simp [execOp]) (hf x (by simp [Op.operands])) rfl
  case assign x =>
    simp only [Option.some.injEq, Prod.mk.injEq] at hg
    obtain ⟨rfl, rfl⟩ := hg
    exact pure_ (cv := cf x) (by simp [execOp]) (hf x (by simp [Op.operands])) rfl
  case pick c a b =>
    have hc := hf c (by simp [Op.operands])
    have ha := hf a (by simp [Op.operands])
    have hb := hf b (by simp [Op.operands])
    unfold pk at hg
    split at hg
    · rename_i hfc
      rw [hfc] at hc
      simp only [Option.some.injEq, Prod.mk.injEq] at hg
      obtain ⟨rfl, rfl⟩ := hg
      generalize hcc : cf c = cc at hc
      cases hc
      exact pure_ (cv := cf a) (by simp [execOp, hcc, asBool]) ha rfl
    · rename_i hfc
      rw [hfc] at hc
      simp only [Option.some.injEq, Prod.mk.injEq] at hg
      obtain ⟨rfl, rfl⟩ := hg
      generalize hcc : cf c = cc at hc
      cases hc
      exact pure_ (cv := cf b) (by simp [execOp, hcc, asBool]) hb rfl
    · cases hg
  case alloc t =>
    split at hg
    · rename_i i z htz
      obtain ⟨q1, q2, q3, q4⟩ := tz_some htz
      cases hg
      obtain ⟨cv, w', φ', k1, k2, k3, k4⟩ := alloc_ok hR q1 q2 q3
      exact ⟨cv, w', φ', .inl (by simp [execOp, k1]), k2, k3, k4⟩
    · cases hg
  case box t x =>
    cases hg
    obtain ⟨cv, w', φ', k1, k2, k3, k4⟩ := box_ok (P := P) hR (t := t) (hf x (by simp [Op.operands]))
    exact ⟨cv, w', φ', .inl (by simp [execOp, k1]), k2, k3, k4⟩
  case build t parts =>
    have hps := parts_rel' (φ := φ) (f := f) (g := cf) parts.toList (fun x hx => hf x (by simp [Op.operands] at hx ⊢; exact hx))
    have hmap : (parts.map fun (i, x) => (i, cf x)) = (parts.toList.map fun (i, x) => (i, cf x)).toArray := by apply Array.ext'; simp
    split at hg
    · rename_i i z htz
      obtain ⟨q1, q2, q3, q4⟩ := tz_some htz
      split at hg
      · rename_i fs ht
        split at hg
        · rename_i pls hpl
          obtain ⟨h1, h2⟩ := pur_some hg
          obtain ⟨cv, k1, k2⟩ := build_struct_ok (w := w) ht q1 q2 q3 hpl hps h1
          exact pure_ (cv := cv) (by simp only [execOp, hmap, Sem.run_bind, k1, Result.andThen_ok, Sem.run_pure]) k2 h2
        · cases hg
      · rename_i n e ht
        split at hg
        · rename_i ie hie
          obtain ⟨h1, h2⟩ := pur_some hg
          obtain ⟨cv, k1, k2⟩ := build_array_ok (w := w) ht q1 hie q2 q3 hps h1
          exact pure_ (cv := cv) (by simp only [execOp, hmap, Sem.run_bind, k1, Result.andThen_ok, Sem.run_pure]) k2 h2
        · cases hg
      · cases hg
    · cases hg
  case buildSlice t len parts =>
    have hps := parts_rel' (φ := φ) (f := f) (g := cf) parts.toList (fun x hx => hf x (by simp [Op.operands] at hx ⊢; exact hx))
    have hmap : (parts.map fun (i, x) => (i, cf x)) = (parts.toList.map fun (i, x) => (i, cf x)).toArray := by apply Array.ext'; simp
    split at hg
    · rename_i e ht
      split at hg
      · rename_i i z htz
        obtain ⟨q1, q2, q3, q4⟩ := tz_some htz
        split at hg
        · rename_i hsm
          obtain ⟨cv, w', φ', k1, k2, k3, k4⟩ := buildSlice_ok hR ht q1 q2 q3 q4 len (Nat.le_of_ble_eq_true hsm) hps hg
          exact ⟨cv, w', φ', .inl (by simp only [execOp, hmap, Sem.run_bind, k1, Result.andThen_ok, Sem.run_pure]), k2, k3, k4⟩
        · cases hg
      · cases hg
    · cases hg
  case load t a =>
    split at hg
    · rename_i i d hti
      obtain ⟨q1, q2⟩ := ti_some hti
      obtain ⟨h1, h2⟩ := pur_some hg
      obtain ⟨cv, k1, k2⟩ := aLoad_ok hR (hf a (by simp [Op.operands])) q1 q2 h1
      exact pure_ (cv := cv) (by simp [execOp, k1]) k2 h2
    · cases hg
  case store t a x =>
    split at hg
    · rename_i i hi
      obtain ⟨h1, rfl⟩ := unt_some hg
      obtain ⟨w', φ', k1, k2, k3⟩ := aStore_ok hR (hf a (by simp [Op.operands])) (hf x (by simp [Op.operands])) hi h1
      exact ⟨undef, w', φ', .inr ⟨rfl, by simp [execOp, k1]⟩, k2, undef_rel, k3⟩
    · cases hg
  case nilCheck x =>
    obtain ⟨h1, h2⟩ := pur_some hg
    obtain ⟨cv, k1, k2⟩ := nilCheck_ok (P := P) (w := w) (cf := cf) (o := ⟨dst, .nilCheck x, ty, pos, after, guard⟩) rfl (hf x (by simp [Op.operands])) h1
    exact pure_ k1 k2 h2
  case binOp b t x y yt =>
    cases hpi : ptrInf P t
    · rw [hpi] at hg
      obtain ⟨h1, h2⟩ := pur_some hg
      obtain ⟨cv, k1, k2⟩ := bin_ok (w := w) (by decide) b t x y (hf x (by simp [Op.operands])) (hf y (by simp [Op.operands])) h1
      refine pure_ (cv := cv) ?_ k2 h2
      simp only [Sem.run_bind] at k1
      simp only [execOp, Sem.run_bind, k1, Result.andThen_ok, Sem.run_pure]
    · rw [hpi] at hg
      obtain ⟨h1, h2⟩ := pur_some hg
      obtain ⟨cv, k1, k2⟩ := binP_ok (w := w) hR (by decide) b t hpi x y (hf x (by simp [Op.operands])) (hf y (by simp [Op.operands])) h1
      refine pure_ (cv := cv) ?_ k2 h2
      simp only [Sem.run_bind] at k1
      simp only [execOp, Sem.run_bind, k1, Result.andThen_ok, Sem.run_pure]
  case unOp u t x =>
    obtain ⟨h1, h2⟩ := pur_some hg
    obtain ⟨cv, k1, k2⟩ := un_ok (P := P) (w := w) u (hf x (by simp [Op.operands])) h1
    exact pure_ (cv := cv) (by simp [execOp, k1]) k2 h2
  case convert s d x =>
    obtain ⟨cv, w', φ', k1, k2, k3, k4⟩ := conv_ok hR (hf x (by simp [Op.operands])) hg
    exact ⟨cv, w', φ', .inl (by simp [execOp, k1]), k2, k3, k4⟩
  case makeInterface t x =>
    split at hg
    · cases hg
    · rename_i d hne hd
      simp only [Option.some.injEq, Prod.mk.injEq] at hg
      obtain ⟨rfl, rfl⟩ := hg
      refine pure_ (cv := .iface t (cf x)) ?_ (.iface _ _ _ (hf x (by simp [Op.operands]))) rfl
      simp only [execOp, Instr.makeInterface, Sem.run_bind, run_underlying hd, Result.andThen_ok]
      cases d <;> first | rfl | exact (hne _ rfl).elim
    · cases hg
  case makeFunc fn first cap =>
    simp only [Option.some.injEq, Prod.mk.injEq] at hg
    obtain ⟨rfl, rfl⟩ := hg
    refine pure_ (cv := .func fn (first.map cf) (cap.map cf)) (by simp [execOp, Instr.makeFunc]) (.func _ _ _ _ _ ?_ ?_) rfl
    · rw [Array.toList_map]; exact map_rel _ (fun x hx => hf x (by simp [Op.operands] at hx ⊢; exact .inl hx))
    · rw [Array.toList_map]; exact map_rel _ (fun x hx => hf x (by simp [Op.operands] at hx ⊢; exact .inr hx))
  case makeMap t r =>
    split at hg
    · cases hg
      obtain ⟨cv, w', φ', k1, k2, k3, k4⟩ := makeMap_ok (P := P) hR t
      exact ⟨cv, w', φ', .inl (by simp [execOp, k1]), k2, k3, k4⟩
    · cases hg
  case makeSlice t l c =>
    split at hg
    · rename_i e ht
      split at hg
      · rename_i i z htz
        obtain ⟨q1, q2, q3, q4⟩ := tz_some htz
        obtain ⟨cv, w', φ', k1, k2, k3, k4⟩ := makeSlice_ok hR ht q1 q2 q3 q4 (hf l (by simp [Op.operands])) (hf c (by simp [Op.operands])) hg
        exact ⟨cv, w', φ', .inl (by simp [execOp, k1]), k2, k3, k4⟩
      · cases hg
    · cases hg
  case slice t x lo hi mx =>
    have hx := hf x (by simp [Op.operands])
    have hlo := orel (φ := φ) (f := f) (g := cf) lo (fun y hy => hf y (by subst hy; simp [Op.operands]))
    have hhi := orel (φ := φ) (f := f) (g := cf) hi (fun y hy => hf y (by subst hy; simp [Op.operands]))
    split at hg
    · rename_i ht
      split at hg
      · obtain ⟨h1, h2⟩ := pur_some hg
        obtain ⟨cv, k1, k2⟩ := sliceStr_ok (w := w) ht hx hlo hhi h1
        exact pure_ (cv := cv) (by simp [execOp, k1]) k2 h2
      · cases hg
    · rename_i e ht
      split at hg
      · rename_i i hi'
        split at hg
        · obtain ⟨h1, h2⟩ := pur_some hg
          obtain ⟨cv, k1, k2⟩ := sliceSl_ok (w := w) ht hi' hx hlo hhi h1
          exact pure_ (cv := cv) (by simp [execOp, k1]) k2 h2
        · rename_i k
          split at hg
          · rename_i h0
            obtain ⟨h1, h2⟩ := pur_some hg
            obtain ⟨cv, k1, k2⟩ := sliceSl3_ok (w := w) ht hi' hx hlo (hf h0 (by simp [Op.operands])) (hf k (by simp [Op.operands])) h1
            exact pure_ (cv := cv) (by simp [execOp, k1]) k2 h2
          · cases hg
      · cases hg
    · split at hg
      · rename_i n e har
        split at hg
        · rename_i i hi'
          split at hg
          · obtain ⟨h1, h2⟩ := pur_some hg
            obtain ⟨cv, k1, k2⟩ := sliceArr_ok hR (arrOf_some har) hi' hx hlo hhi h1
            exact pure_ (cv := cv) (by simp [execOp, k1]) k2 h2
          · cases hg
        · cases hg
      · cases hg
  case fieldAddr t x k =>
    split at hg
    · rename_i fs ht
      split at hg
      · rename_i fl hfl
        split at hg
        · rename_i i hi
          split at hg
          · rename_i hs
            have hs := Nat.le_of_ble_eq_true hs
            obtain ⟨h1, h2⟩ := pur_some hg
            obtain ⟨cv, k1, k2⟩ := fieldAddr_ok (w := w) ht hfl hi (by omega) (hf x (by simp [Op.operands])) h1
            exact pure_ (cv := cv) (by simp [execOp, k1]) k2 h2
          · cases hg
        · cases hg
      · cases hg
    · cases hg
  case field t x k =>
    split at hg
    · rename_i fs ht
      split at hg
      · rename_i fl hfl
        split at hg
        · rename_i i d hti
          obtain ⟨q1, q2⟩ := ti_some hti
          obtain ⟨h1, h2⟩ := pur_some hg
          obtain ⟨cv, k1, k2⟩ := field_ok (w := w) ht hfl q1 q2 (hf x (by simp [Op.operands])) h1
          exact pure_ (cv := cv) (by simp [execOp, k1]) k2 h2
        · cases hg
      · cases hg
    · cases hg
  case indexAddr t x i =>
    split at hg
    · rename_i n e ht
      split at hg
      · rename_i ie hi
        obtain ⟨h1, h2⟩ := pur_some hg
        obtain ⟨cv, k1, k2⟩ := indexAddrArr_ok (w := w) ht hi (hf x (by simp [Op.operands])) (hf i (by simp [Op.operands])) h1
        exact pure_ (cv := cv) (by simp [execOp, k1]) k2 h2
      · cases hg
    · rename_i e ht
      split at hg
      · rename_i ie hi
        obtain ⟨h1, h2⟩ := pur_some hg
        obtain ⟨cv, k1, k2⟩ := indexAddrSl_ok (w := w) ht hi (hf x (by simp [Op.operands])) (hf i (by simp [Op.operands])) h1
        exact pure_ (cv := cv) (by simp [execOp, k1]) k2 h2
      · cases hg
    · cases hg
  case index t x i =>
    split at hg
    · rename_i n e ht
      split at hg
      · rename_i ie d hti
        obtain ⟨q1, q2⟩ := ti_some hti
        obtain ⟨h1, h2⟩ := pur_some hg
        obtain ⟨cv, k1, k2⟩ := indexArr_ok (w := w) ht q1 q2 (hf x (by simp [Op.operands])) (hf i (by simp [Op.operands])) h1
        exact pure_ (cv := cv) (by simp [execOp, k1]) k2 h2
      · cases hg
    · rename_i ht
      obtain ⟨h1, h2⟩ := pur_some hg
      obtain ⟨cv, k1, k2⟩ := indexStr_ok (w := w) ht (hf x (by simp [Op.operands])) (hf i (by simp [Op.operands])) h1
      exact pure_ (cv := cv) (by simp [execOp, k1]) k2 h2
    · cases hg
  case lookup t x k ok =>
    split at hg
    · rename_i kt e ht
      split at hg
      · rename_i i z htz
        obtain ⟨q1, q2, q3, q4⟩ := tz_some htz
        split at hg
        · rename_i D hD
          obtain ⟨h1, h2⟩ := pur_some hg
          obtain ⟨cv, k1, k2⟩ := lookup_ok hR (by decide) ht hD q1 q2 q3 ok (hf x (by simp [Op.operands])) (hf k (by simp [Op.operands])) h1
          exact pure_ (cv := cv) (by simp [execOp, k1]) k2 h2
        · cases hg
      · cases hg
    · cases hg
  case mapUpdate t x k u =>
    split at hg
    · rename_i kt e ht
      split at hg
      · rename_i D hD
        obtain ⟨h1, rfl⟩ := unt_some hg
        obtain ⟨w', φ', k1, k2, k3⟩ := mapUpdate_ok hR (by decide) ht hD (hf x (by simp [Op.operands])) (hf k (by simp [Op.operands])) (hf u (by simp [Op.operands])) h1
        exact ⟨undef, w', φ', .inr ⟨rfl, by simp [execOp, k1]⟩, k2, undef_rel, k3⟩
      · cases hg
    · cases hg
  case insert t x k u =>
    split at hg
    · rename_i kt e ht
      split at hg
      · rename_i D hD
        obtain ⟨h1, rfl⟩ := unt_some hg
        obtain ⟨w', φ', k1, k2, k3⟩ := mapUpdate_ok hR (by decide) ht hD (hf x (by simp [Op.operands])) (hf k (by simp [Op.operands])) (hf u (by simp [Op.operands])) h1
        exact ⟨undef, w', φ', .inr ⟨rfl, by simp [execOp, k1]⟩, k2, undef_rel, k3⟩
      · cases hg
    · cases hg
  case range t x =>
    split at hg
    · rename_i ht
      obtain ⟨cv, w', φ', k1, k2, k3, k4⟩ := rangeStr_ok hR ht (hf x (by simp [Op.operands])) hg
      exact ⟨cv, w', φ', .inl (by simp [execOp, k1]), k2, k3, k4⟩
    · cases hg
  case next x b =>
    cases b
    · cases hg
    · obtain ⟨cv, w', φ', k1, k2, k3, k4⟩ := nextStr_ok (P := P) hR (ty := ty) (hf x (by simp [Op.operands])) hg
      exact ⟨cv, w', φ', .inl (by simp [execOp, k1]), k2, k3, k4⟩
  case extract x k =>
    obtain ⟨h1, h2⟩ := pur_some hg
    obtain ⟨cv, k1, k2⟩ := extract_ok (P := P) (w := w) (hf x (by simp [Op.operands])) h1
    exact pure_ (cv := cv) (by simp [execOp, k1]) k2 h2
  case call c =>
    obtain ⟨callee, args, argTypes⟩ := c
    cases callee
    case builtin b =>
      have ha := map_rel (φ := φ) (f := f) (cf := cf) args.toList (fun x hx => hf x (by simp [Op.operands, Call.operands] at hx ⊢; exact hx))
      obtain ⟨cv, w', φ', k1, k2, k3, k4⟩ := evBuiltin_ok (ty := ty) (cs := args.map fun | .const _ => true | _ => false) hR ha hg
      refine ⟨cv, w', φ', .inl ?_, k2, k3, k4⟩
      have hmap : args.map cf = (args.toList.map cf).toArray := by apply Array.ext'; simp
      simp only [execOp, resolve, Sem.run_bind, Sem.run_pure, Result.andThen_ok, invoke, hmap]
      exact k1
    all_goals cases hg
  all_goals cases hg

end Go.Ab

namespace Go.Ab
open Go.RowKit (Below)

/-- the state of the two: W0 is the world in which the law's call began -/
structure Cfg (W0 : World) (n : Nat) (φ : Pmap) (ρ : Env) (m : Mem) (a : Act) (w : World) : Prop where
  rel : Rel W0.heap.size φ m w
  below : Below W0.heap.size W0 w
  env : ∀ i, VRel φ (ρ i) (a.tmps.getD i undef)
  size : a.tmps.size = n
  defers : a.defers = []
  low : m.low ≤ m.next

theorem below_step {B0 : Nat} {W0 : World} {φ φ' : Pmap} {m m' : Mem} {w w' : World} (h : Rel B0 φ m w) (hb : Below B0 W0 w) (s : Stp φ m w φ' m' w') : Below B0 W0 w' where
  os := s.os.trans hb.os
  tape := s.tape.trans hb.tape
  output := s.output.trans hb.output
  size := Nat.le_trans hb.size s.size
  block := fun k hk => by
    rw [s.frame k (Nat.lt_of_lt_of_le hk h.size) (fun b pl hx hr => by have := h.base b pl hx hr; omega)]
    exact hb.block k hk

/-- what a call comes to -/
def CallsV (P : Program) (f : FuncId) (cargs : List Value) (w : World) (R : Value → World → Prop) : Prop :=
  ((callFunc f cargs.toArray).run P w = .ok (.enter f cargs.toArray) w ∧ Calls P f cargs.toArray w fun e w' => ∃ v, e = .returned v ∧ R v w') ∨
  (∃ v w', (callFunc f cargs.toArray).run P w = .ok (.value v) w' ∧ R v w')

def After (B0 : Nat) (φ : Pmap) (m : Mem) (w : World) (v : Value) (m' : Mem) (cv : Value) (w' : World) : Prop :=
  ∃ φ', Rel B0 φ' m' w' ∧ VRel φ' v cv ∧ Stp φ m w φ' m' w'

def TabSound (P : Program) (W0 : World) (g : Tab) : Prop :=
  ∀ (φ : Pmap) (m : Mem) (w : World) (f : FuncId) (args cargs : List Value) (v : Value) (m' : Mem), Rel W0.heap.size φ m w → Below W0.heap.size W0 w → VRels φ args cargs → g f args m = some (v, m') →
    CallsV P f cargs w (After W0.heap.size φ m w v m')

theorem upon_calls {P : Program} {o : Oper} {a : Act} {K : Act → World → Prop} {Q : Exit → Act → World → Prop} {f : FuncId} {cargs : List Value} {w : World} {R : Value → World → Prop} (h : CallsV P f cargs w R)
    (hK : ∀ cv w', R cv w' → K (a.put o.dst cv) w') : o.upon P a K Q ((callFunc f cargs.toArray).run P w) := by
  rcases h with ⟨h1, h2⟩ | ⟨v, w', h1, h2⟩
  · rw [h1]
    refine h2.mono fun e w' he => ?_
    obtain ⟨v, rfl, hv⟩ := he
    exact hK v w' hv
  · rw [h1]
    exact hK v w' h2

/-- one operation, whatever it is -/
theorem evAny_ok {P : Program} {W0 : World} {g : Tab} (hT : TabSound P W0 g) {φ : Pmap} {m m' : Mem} {w : World} (hR : Rel W0.heap.size φ m w) (hB : Below W0.heap.size W0 w) {f : Operand → Value} {a : Act} (o : Oper) (hf : ∀ x ∈ o.op.operands.toList, VRel φ (f x) (a.eval x)) {v : Value}
    (hg : evAny P g f m o = some (v, m')) {K : Act → World → Prop} {Q : Exit → Act → World → Prop}
    (hK : ∀ cv w', After W0.heap.size φ m w v m' cv w' → K (a.put o.dst cv) w') : o.wp P a w K Q := by
  have simple : evOp P f m o = some (v, m') → o.wp P a w K Q := fun h => by
    obtain ⟨cv, w', φ', h1, h2, h3, h4⟩ := evOp_ok hR o hf h
    have hk := hK cv w' ⟨φ', h2, h3, h4⟩
    unfold Oper.wp
    rcases h1 with h1 | ⟨rfl, h1⟩
    · rw [h1]; exact hk
    · rw [h1]; exact hk
  unfold evAny at hg
  split at hg
  · rename_i x args tys hop
    have hx := hf x (by rw [hop]; simp [Op.operands, Call.operands])
    have ha := map_rel (φ := φ) (f := f) (cf := a.eval) args.toList (fun y hy => hf y (by rw [hop]; simp [Op.operands, Call.operands] at hy ⊢; exact .inr hy))
    unfold evCall at hg
    split at hg
    · rename_i fid first cap hfx
      rw [hfx] at hx
      generalize hcx : a.eval x = cx at hx
      cases hx with
      | func _ _ _ first' cap' h1 h2 =>
      have hall := (h1.append ha).append h2
      have hc := hT φ m w fid _ _ v m' hR hB hall hg
      have := upon_calls (o := o) (a := a) (K := K) (Q := Q) hc hK
      unfold Oper.wp
      have e : (execOp a.eval o).run P w = (callFunc fid (first'.toList ++ args.toList.map a.eval ++ cap'.toList).toArray).run P w := by
        have harr : (first'.toList ++ args.toList.map a.eval ++ cap'.toList).toArray = first' ++ args.map a.eval ++ cap' := by
          apply Array.ext'; simp
        rw [harr]
        simp only [execOp, hop, resolve, Deferred.ofValue, hcx, Sem.run_bind, Sem.run_pure, Result.andThen_ok, invoke]
      rw [e]
      exact this
    · cases hg
  · exact simple hg

theorem upd_same {n : Nat} {ρ : Env} {d : Nat} {v : Value} (h : ρ d = v) : upd n ρ d v = ρ := by
  funext i
  unfold upd
  cases hb : Nat.beq i d && Nat.blt d n
  · rfl
  · simp only [Bool.and_eq_true] at hb
    have := Nat.eq_of_beq_eq_true hb.1
    simp only [cond_true]
    rw [this, h]

theorem env_put {n : Nat} {φ : Pmap} {ρ : Env} {a : Act} (h : ∀ i, VRel φ (ρ i) (a.tmps.getD i undef)) (hs : a.tmps.size = n) (dst : Option Nat) {v cv : Value} (hv : VRel φ v cv) : ∀ i, VRel φ (put n ρ dst v i) ((a.put dst cv).tmps.getD i undef) := by
  intro i
  cases dst with
  | none => exact h i
  | some d =>
    simp only [put, upd, Act.put]
    cases hb : Nat.beq i d && Nat.blt d n
    · simp only [cond_false]
      have : (a.tmps.setIfInBounds d cv).getD i undef = a.tmps.getD i undef := by
        by_cases hid : i = d
        · subst hid
          have hlt : ¬ i < n := fun hlt => by
            have : (Nat.beq i i && Nat.blt i n) = true := by
              simp only [Bool.and_eq_true]
              exact ⟨Nat.beq_refl i, by simp [Nat.blt, Nat.ble_eq]; omega⟩
            rw [this] at hb; cases hb
          simp only [Array.getD_eq_getD_getElem?]
          rw [Array.getElem?_eq_none (by simp; omega), Array.getElem?_eq_none (by omega)]
        · simp only [Array.getD_eq_getD_getElem?]
          rw [Array.getElem?_setIfInBounds_ne (Ne.symm hid)]
      rw [this]
      exact h i
    · simp only [cond_true]
      simp only [Bool.and_eq_true] at hb
      have hid := Nat.eq_of_beq_eq_true hb.1
      have hlt : d < n := by have := hb.2; simp [Nat.blt, Nat.ble_eq] at this; omega
      subst hid
      simp only [Array.getD_eq_getD_getElem?]
      rw [Array.getElem?_setIfInBounds_self_of_lt (by omega)]
      exact hv

theorem put_size {a : Act} {dst : Option Nat} {v : Value} : (a.put dst v).tmps.size = a.tmps.size := by cases dst <;> simp [Act.put]
theorem put_defers {a : Act} {dst : Option Nat} {v : Value} : (a.put dst v).defers = a.defers := by cases dst <;> rfl

theorem opd_rel {φ : Pmap} {ρ : Env} {a : Act} (h : ∀ i, VRel φ (ρ i) (a.tmps.getD i undef)) {l : List Operand} (hok : l.all opdOk = true) : ∀ x ∈ l, VRel φ (opd ρ x) (a.eval x) := by
  intro x hx
  have := List.all_eq_true.1 hok x hx
  cases x with
  | tmp t => exact h t
  | const v => exact plainV_rel this
  | global g => cases this
  | func f => exact .func _ _ _ _ _ .nil .nil

/-- behind an operation -/
theorem Cfg.after {W0 : World} {n : Nat} {φ : Pmap} {ρ : Env} {m m' : Mem} {a : Act} {w w' : World} (h : Cfg W0 n φ ρ m a w) {dst : Option Nat} {v cv : Value} (ha : After W0.heap.size φ m w v m' cv w') :
    ∃ φ', Cfg W0 n φ' (put n ρ dst v) m' (a.put dst cv) w' ∧ Stp φ m w φ' m' w' := by
  obtain ⟨φ', h1, h2, h3⟩ := ha
  exact ⟨φ', ⟨h1, below_step h.rel h.below h3, env_put (fun i => (h.env i).mono h3.le) h.size dst h2, by rw [put_size]; exact h.size, by rw [put_defers]; exact h.defers, Nat.le_trans h3.low (Nat.le_trans h.low h3.next)⟩, h3⟩

theorem Cfg.skip {W0 : World} {n : Nat} {φ : Pmap} {ρ : Env} {m : Mem} {a : Act} {w : World} (h : Cfg W0 n φ ρ m a w) (dst : Option Nat) : Cfg W0 n φ (put n ρ dst undef) m (a.put dst undef) w :=
  ⟨h.rel, h.below, env_put h.env h.size dst undef_rel, by rw [put_size]; exact h.size, by rw [put_defers]; exact h.defers, h.low⟩

end Go.Ab

namespace Go.Ab
open Go.RowKit (Below)

/-- the operations of a region that is carried out in the order of its text; `i`: the place of the next one; `sk`: those that were passed over -/
def evOps (P : Program) (g : Tab) (n : Nat) (ops : Array Oper) : List Oper → Nat → List Nat → Env → Mem → (Env → Mem → Option Rs) → Option Rs
  | [], _, _, ρ, m, k => k ρ m
  | o :: os, i, sk, ρ, m, k =>
    match o.op.operands.toList.all opdOk with
    | false => none
    | true =>
      match o.guard with
      | none => opK P (evAny P g (opd ρ) m o) (opd ρ) m o fun v m => evOps P g n ops os (i + 1) sk (put n ρ o.dst v) m k
      | some (j, want) => match (ops[j]?).bind (·.dst) with
        | none => none
        | some d =>
          match sk.contains j with
          | true => brs (ρ d) (evOps P g n ops os (i + 1) (i :: sk) (put n ρ o.dst undef) m k)
          | false => brb (ρ d)
            (match want with
              | true => opK P (evAny P g (opd (upd n ρ d (.bool true))) m o) (opd (upd n ρ d (.bool true))) m o fun v m => evOps P g n ops os (i + 1) sk (put n (upd n ρ d (.bool true)) o.dst v) m k
              | false => evOps P g n ops os (i + 1) (i :: sk) (put n (upd n ρ d (.bool true)) o.dst undef) m k)
            (match want with
              | true => evOps P g n ops os (i + 1) (i :: sk) (put n (upd n ρ d (.bool false)) o.dst undef) m k
              | false => opK P (evAny P g (opd (upd n ρ d (.bool false))) m o) (opd (upd n ρ d (.bool false))) m o fun v m => evOps P g n ops os (i + 1) sk (put n (upd n ρ d (.bool false)) o.dst v) m k)

theorem bp_some {α : Type} {x : Option (Value × Mem)} {k : Value → Mem → Option α} {r : α} (h : bp x k = some r) : ∃ v m, x = some (v, m) ∧ k v m = some r := by
  cases x with
  | none => cases h
  | some y => exact ⟨y.1, y.2, rfl, h⟩

theorem yielded_of {φ : Pmap} {ρ : Env} {a : Act} (h : ∀ i, VRel φ (ρ i) (a.tmps.getD i undef)) {ops : Array Oper} {j d : Nat} (hd : (ops[j]?).bind (·.dst) = some d) :
    (∀ b, ρ d = .bool b → yielded ops a.tmps j = some b) ∧ (ρ d = .tuple #[] → yielded ops a.tmps j = none) := by
  have hr := h d
  constructor
  · intro b hb
    rw [hb] at hr
    generalize hc : a.tmps.getD d undef = c at hr
    cases hr
    have : a.tmps[d]? = some (.bool b) := by
      rw [Array.getD_eq_getD_getElem?] at hc
      cases hx : a.tmps[d]? with
      | none => rw [hx] at hc; cases hc
      | some y => rw [hx] at hc; simp at hc; rw [hc]
    simp [yielded, hd, this]
  · intro hb
    rw [hb] at hr
    generalize hc : a.tmps.getD d undef = c at hr
    cases hr
    rw [Array.getD_eq_getD_getElem?] at hc
    cases hx : a.tmps[d]? with
    | none => simp [yielded, hd, hx]
    | some y => rw [hx] at hc; simp at hc; simp [yielded, hd, hx, hc]

theorem evOps_ok {P : Program} {W0 : World} {g : Tab} (hT : TabSound P W0 g) {n : Nat} {ops : Array Oper} {Q : Exit → Act → World → Prop} {k : Env → Mem → Option Rs} {r : Rs} {φ0 : Pmap} {m0 : Mem} {w0 : World} :
    ∀ (l : List Oper) (i : Nat) (sk : List Nat) (φ : Pmap) (ρ : Env) (m : Mem) (a : Act) (w : World), (∀ j, l[j]? = ops[i + j]?) → Cfg W0 n φ ρ m a w → Stp φ0 m0 w0 φ m w → evOps P g n ops l i sk ρ m k = some r →
      (∀ φ' ρ' m' a' w', Cfg W0 n φ' ρ' m' a' w' → Stp φ0 m0 w0 φ' m' w' → k ρ' m' = some r → Q .normal a' w') → wpOps P ops Q (List.range' i l.length) a w
  | [], i, sk, φ, ρ, m, a, w, _, hc, hs, he, hk => by
    simp only [evOps] at he
    exact hk φ ρ m a w hc hs he
  | o :: os, i, sk, φ, ρ, m, a, w, hl, hc, hs, he, hk => by
    have ho : ops[i]? = some o := by have := hl 0; simpa using this.symm
    have hl' : ∀ j, os[j]? = ops[i + 1 + j]? := fun j => by
      have := hl (j + 1)
      rw [List.getElem?_cons_succ] at this
      rw [this]; congr 1; omega
    simp only [List.length_cons, List.range'_succ]
    simp only [evOps, opK_evAny] at he
    split at he
    case h_1 => cases he
    case h_2 hok =>
    -- running the operation
    have run : ∀ {ρ1 : Env}, Cfg W0 n φ ρ1 m a w → (bp (evAny P g (opd ρ1) m o) fun v m => evOps P g n ops os (i + 1) sk (put n ρ1 o.dst v) m k) = some r → Region.wanted o (yielded ops a.tmps) = true →
        wpOps P ops Q (i :: List.range' (i + 1) os.length) a w := fun {ρ1} hc1 hb hw => by
      obtain ⟨v, m', h1, h2⟩ := bp_some hb
      simp only [wpOps, ho, hw, if_true]
      refine .inl (evAny_ok hT hc1.rel hc1.below o (opd_rel hc1.env hok) h1 fun cv w' hafter => ?_)
      obtain ⟨φ', hc', hs'⟩ := hc1.after (dst := o.dst) hafter
      exact evOps_ok hT os (i + 1) sk φ' _ m' _ w' hl' hc' (hs.trans hs') h2 hk
    -- passing it over
    have pass : ∀ {ρ1 : Env}, Cfg W0 n φ ρ1 m a w → evOps P g n ops os (i + 1) (i :: sk) (put n ρ1 o.dst undef) m k = some r → Region.wanted o (yielded ops a.tmps) = false →
        wpOps P ops Q (i :: List.range' (i + 1) os.length) a w := fun {ρ1} hc1 hb hw => by
      simp only [wpOps, ho, hw, Bool.false_eq_true, if_false]
      exact evOps_ok hT os (i + 1) (i :: sk) φ _ m _ w hl' (hc1.skip o.dst) hs hb hk
    split at he
    · rename_i hg
      exact run hc he (by simp [Region.wanted, hg])
    · rename_i j want hg
      split at he
      · cases he
      · rename_i d hd
        obtain ⟨hy1, hy2⟩ := yielded_of hc.env hd
        split at he
        · unfold brs at he
          split at he
          · rename_i hρ
            exact pass hc he (by simp [Region.wanted, hg, hy2 hρ])
          · cases he
        · unfold brb at he
          split at he
          · rename_i hρ
            rw [upd_same hρ] at he
            split at he
            · exact run hc he (by simp [Region.wanted, hg, hy1 _ hρ])
            · exact pass hc he (by simp [Region.wanted, hg, hy1 _ hρ])
          · rename_i hρ
            rw [upd_same hρ] at he
            split at he
            · exact pass hc he (by simp [Region.wanted, hg, hy1 _ hρ])
            · exact run hc he (by simp [Region.wanted, hg, hy1 _ hρ])
          · cases he

end Go.Ab

namespace Go.Ab
open Go.RowKit (Below)

/-- what is done where a piece of code is left -/
structure Ks where
  nx : Env → Mem → Option Rs
  ex : Nat → Env → Mem → Option Rs
  rt : Env → Mem → Option Rs

abbrev Drawn := Array Oper → Env → Mem → (Env → Mem → Option Rs) → Option Rs

def evLoop (body : Env → Mem → Ks → Option Rs) : Nat → Env → Mem → Ks → Option Rs
  | 0, _, _, _ => none
  | i + 1, ρ, m, k => body ρ m { nx := fun ρ m => evLoop body i ρ m k, ex := k.ex, rt := k.rt }

def ev (P : Program) (g : Tab) (R : Nat) (dr : Drawn) (n : Nat) : Code → Env → Mem → Ks → Option Rs
  | .skip, ρ, m, k => k.nx ρ m
  | .label _, ρ, m, k => k.nx ρ m
  | .region _ ops draw, ρ, m, k => match draw with | true => dr ops ρ m k.nx | false => evOps P g n ops ops.toList 0 [] ρ m k.nx
  | .seq a b, ρ, m, k => ev P g R dr n a ρ m { nx := fun ρ m => ev P g R dr n b ρ m k, ex := k.ex, rt := k.rt }
  | .cond c a b, ρ, m, k => brb (opd ρ c) (ev P g R dr n a ρ m k) (ev P g R dr n b ρ m k)
  | .block id c, ρ, m, k => ev P g R dr n c ρ m { nx := k.nx, ex := fun i ρ m => bif Nat.beq i id then k.nx ρ m else k.ex i ρ m, rt := k.rt }
  | .loop c, ρ, m, k => evLoop (fun ρ m k => ev P g R dr n c ρ m k) R ρ m k
  | .exit id, ρ, m, k => k.ex id ρ m
  | .ret, ρ, m, k => k.rt ρ m
  | _, _, _, _ => none

/-- the drawn regions are met whatever order is drawn -/
def DrSound (P : Program) (W0 : World) (n : Nat) (dr : Drawn) : Prop :=
  ∀ (id : Nat) (ops : Array Oper) (φ : Pmap) (ρ : Env) (m : Mem) (a : Act) (w : World) (k : Env → Mem → Option Rs) (r : Rs) (Q : Exit → Act → World → Prop), Cfg W0 n φ ρ m a w → dr ops ρ m k = some r →
    (∀ φ' ρ' m' a' w', Cfg W0 n φ' ρ' m' a' w' → Stp φ m w φ' m' w' → k ρ' m' = some r → Q .normal a' w') → (Code.region id ops true).wp P Q a w

/-- what the code's ends must bear -/
structure KOk (W0 : World) (n : Nat) (k : Ks) (r : Rs) (φ0 : Pmap) (m0 : Mem) (w0 : World) (Q : Exit → Act → World → Prop) : Prop where
  nx : ∀ φ ρ m a w, Cfg W0 n φ ρ m a w → Stp φ0 m0 w0 φ m w → k.nx ρ m = some r → Q .normal a w
  ex : ∀ id φ ρ m a w, Cfg W0 n φ ρ m a w → Stp φ0 m0 w0 φ m w → k.ex id ρ m = some r → Q (.exit id) a w
  rt : ∀ φ ρ m a w, Cfg W0 n φ ρ m a w → Stp φ0 m0 w0 φ m w → k.rt ρ m = some r → Q .ret a w

theorem range_eq (n : Nat) : List.range n = List.range' 0 n := List.range_eq_range'

theorem ev_ok {P : Program} {W0 : World} {g : Tab} {R : Nat} (hT : TabSound P W0 g) {dr : Drawn} {n : Nat} (hD : DrSound P W0 n dr) {r : Rs} :
    ∀ (c : Code) (φ : Pmap) (ρ : Env) (m : Mem) (a : Act) (w : World) (k : Ks) (Q : Exit → Act → World → Prop) (φ0 : Pmap) (m0 : Mem) (w0 : World), Cfg W0 n φ ρ m a w → Stp φ0 m0 w0 φ m w → ev P g R dr n c ρ m k = some r → KOk W0 n k r φ0 m0 w0 Q → c.wp P Q a w := by
  intro c
  induction c with
  | skip => intro φ ρ m a w k Q φ0 m0 w0 hc hs he hk; exact wp_skip (hk.nx φ ρ m a w hc hs he)
  | label l => intro φ ρ m a w k Q φ0 m0 w0 hc hs he hk; exact wp_label (hk.nx φ ρ m a w hc hs he)
  | region id ops draw =>
    intro φ ρ m a w k Q φ0 m0 w0 hc hs he hk
    cases draw
    · simp only [ev] at he
      refine wp_region ?_
      have := evOps_ok (Q := Q) hT ops.toList 0 [] φ ρ m a w (fun j => by simp) hc hs he (fun φ' ρ' m' a' w' h1 h2 h3 => hk.nx φ' ρ' m' a' w' h1 h2 h3)
      rw [range_eq]
      simpa using this
    · simp only [ev] at he
      exact hD id ops φ ρ m a w k.nx r Q hc he (fun φ' ρ' m' a' w' h1 h2 h3 => hk.nx φ' ρ' m' a' w' h1 (hs.trans h2) h3)
  | seq x y ihx ihy =>
    intro φ ρ m a w k Q φ0 m0 w0 hc hs he hk
    simp only [ev] at he
    refine wp_seq (ihx φ ρ m a w _ _ φ0 m0 w0 hc hs he ⟨?_, ?_, ?_⟩)
    · intro φ' ρ' m' a' w' h1 h2 h3
      exact ihy φ' ρ' m' a' w' k Q φ0 m0 w0 h1 h2 h3 hk
    · intro id φ' ρ' m' a' w' h1 h2 h3
      exact hk.ex id φ' ρ' m' a' w' h1 h2 h3
    · intro φ' ρ' m' a' w' h1 h2 h3
      exact hk.rt φ' ρ' m' a' w' h1 h2 h3
  | cond c x y ihx ihy =>
    intro φ ρ m a w k Q φ0 m0 w0 hc hs he hk
    simp only [ev] at he
    have key : ∀ b, opd ρ c = .bool b → a.eval c = .bool b := fun b hb => by
      cases c with
      | tmp t =>
        have := hc.env t
        simp only [opd] at hb
        rw [hb] at this
        simp only [Act.eval]
        generalize a.tmps.getD t undef = q at this
        cases this
        rfl
      | const v => exact hb
      | global g => simp [opd, u300_eq] at hb
      | func f => cases hb
    unfold brb at he
    split at he
    · rename_i hb
      exact wp_cond_true (key _ hb) (ihx φ ρ m a w k Q φ0 m0 w0 hc hs he hk)
    · rename_i hb
      exact wp_cond_false (key _ hb) (ihy φ ρ m a w k Q φ0 m0 w0 hc hs he hk)
    · cases he
  | block id x ih =>
    intro φ ρ m a w k Q φ0 m0 w0 hc hs he hk
    simp only [ev] at he
    refine wp_block (ih φ ρ m a w _ _ φ0 m0 w0 hc hs he ⟨?_, ?_, ?_⟩)
    · intro φ' ρ' m' a' w' h1 h2 h3
      exact hk.nx φ' ρ' m' a' w' h1 h2 h3
    · intro i φ' ρ' m' a' w' h1 h2 h3
      simp only [bifbeq] at h3
      simp only [Exit.inBlock]
      split at h3
      · rename_i e
        rw [if_pos e]
        exact hk.nx φ' ρ' m' a' w' h1 h2 h3
      · rename_i e
        rw [if_neg e]
        exact hk.ex i φ' ρ' m' a' w' h1 h2 h3
    · intro φ' ρ' m' a' w' h1 h2 h3
      exact hk.rt φ' ρ' m' a' w' h1 h2 h3
  | loop x ih =>
    intro φ ρ m a w k Q φ0 m0 w0 hc hs he hk
    simp only [ev] at he
    refine wp_loop_rounds R ?_
    have key : ∀ (i : Nat) (φ : Pmap) (ρ : Env) (m : Mem) (a : Act) (w : World), Cfg W0 n φ ρ m a w → Stp φ0 m0 w0 φ m w → evLoop (fun ρ m k => ev P g R dr n x ρ m k) i ρ m k = some r → Code.rounds P x Q i a w := by
      intro i
      induction i with
      | zero => intro φ ρ m a w hc hs he; cases he
      | succ i ihi =>
        intro φ ρ m a w hc hs he
        simp only [evLoop] at he
        rw [rounds_succ]
        refine ih φ ρ m a w _ _ φ0 m0 w0 hc hs he ⟨?_, ?_, ?_⟩
        · intro φ' ρ' m' a' w' h1 h2 h3
          exact ihi φ' ρ' m' a' w' h1 h2 h3
        · intro id φ' ρ' m' a' w' h1 h2 h3
          exact hk.ex id φ' ρ' m' a' w' h1 h2 h3
        · intro φ' ρ' m' a' w' h1 h2 h3
          exact hk.rt φ' ρ' m' a' w' h1 h2 h3
    exact key R φ ρ m a w hc hs he
  | exit id => intro φ ρ m a w k Q φ0 m0 w0 hc hs he hk; exact wp_exit (hk.ex id φ ρ m a w hc hs he)
  | ret => intro φ ρ m a w k Q φ0 m0 w0 hc hs he hk; exact wp_ret (hk.rt φ ρ m a w hc hs he)
  | rangeFunc _ _ _ _ => intro φ ρ m a w k Q φ0 m0 w0 hc hs he hk; simp [ev] at he
  | scope _ _ => intro φ ρ m a w k Q φ0 m0 w0 hc hs he hk; simp [ev] at he
  | goto _ => intro φ ρ m a w k Q φ0 m0 w0 hc hs he hk; simp [ev] at he
  | refuse _ => intro φ ρ m a w k Q φ0 m0 w0 hc hs he hk; simp [ev] at he

end Go.Ab

namespace Go.Ab
open Go.RowKit (Below)

/-- all that the value refers to lies below block n -/
def refs (n : Nat) : Nat → Value → Bool
  | 0, _ => false
  | d + 1, v => match v with
    | .bool _ | .int _ _ | .string _ | .float _ _ | .nilFunc | .nilIface | .pointer none | .slice none _ _ | .map none => true
    | .pointer (some a) => Nat.blt a.block n
    | .slice (some a) _ _ => Nat.blt a.block n
    | .map (some b) => Nat.blt b n
    | .func _ f c => f.toList.all (refs n d) && c.toList.all (refs n d)
    | .iface _ v => refs n d v
    | .agg cs => cs.toList.all (refs n d)
    | .tuple cs => cs.toList.all (refs n d)
    | _ => false

theorem refs_rel {φ φ' : Pmap} {n : Nat} (h : ∀ b, b < n → φ' b = φ b) : ∀ (d : Nat) {v cv : Value}, refs n d v = true → VRel φ' v cv → VRel φ v cv := by
  intro d
  induction d with
  | zero => intro v cv hr; cases hr
  | succ d ih =>
    have all : ∀ {l cl : List Value}, l.all (refs n d) = true → VRels φ' l cl → VRels φ l cl := by
      intro l
      induction l with
      | nil => intro cl _ hl; cases hl; exact .nil
      | cons x l ihl =>
        intro cl hr hl
        simp only [List.all_cons, Bool.and_eq_true] at hr
        cases hl with
        | cons _ v' _ l' hv hl => exact .cons _ _ _ _ (ih hr.1 hv) (ihl hr.2 hl)
    intro v cv hr hv
    have lt : ∀ b, Nat.blt b n = true → b < n := fun b hb => by simp [Nat.blt, Nat.ble_eq] at hb; omega
    cases hv <;> simp only [refs] at hr
    case bool => exact .bool _
    case int => exact .int _ _
    case float => exact .float _ _
    case string => exact .string _
    case nilPtr => exact .nilPtr
    case ptr b o r B O pl hb hr' hp => exact .ptr b o r B O pl (by rw [← h b (lt _ hr)]; exact hb) hr' hp
    case nilSlice => exact .nilSlice
    case slice b o es k t B O cap pl hb hes hk hr' hp => exact .slice b o es k t B O cap pl (by rw [← h b (lt _ hr)]; exact hb) hes hk hr' hp
    case nilMap => exact .nilMap
    case map b R pl hb hp => exact .map b R pl (by rw [← h b (lt _ hr)]; exact hb) hp
    case func fn a c a' c' ha hc =>
      simp only [Bool.and_eq_true] at hr
      exact .func _ _ _ _ _ (all hr.1 ha) (all hr.2 hc)
    case nilFunc => exact .nilFunc
    case iface t x x' hx => exact .iface _ _ _ (ih hr hx)
    case nilIface => exact .nilIface
    case agg a a' ha => exact .agg _ _ (all hr ha)
    case tuple a a' ha => exact .tuple _ _ (all hr ha)

theorem BRel.back {φ φ' : Pmap} (h : ∀ b pl, φ b = some pl → φ' b = some pl) {w w' : World} {pl : Pl} {o : AObj} (h0 : BRel φ w pl o) (h1 : BRel φ' w' pl o) : BRel φ w' pl o := by
  cases o with
  | cells c ver fro ro ty' =>
    obtain ⟨_, _, _, C, ty, lo, hi, _, _, q, _⟩ := h0
    obtain ⟨a1, a2, a3, C', ty', lo', hi', a4, a5, a6, a7⟩ := h1
    refine ⟨a1, a2, a3, C', ty', lo', hi', a4, a5, fun i v hi hv => ?_, a7⟩
    obtain ⟨c0, _, k1⟩ := q i v hi hv
    obtain ⟨c1, k2, k3⟩ := a6 i v hi hv
    exact ⟨c1, k2, k1.back h k3⟩
  | map es clock =>
    obtain ⟨_, _, es0, _, q⟩ := h0
    obtain ⟨a1, a2, es1, a3, a4⟩ := h1
    exact ⟨a1, a2, es1, a3, q.back h a4⟩
  | siter s pos => exact h1
  | miter _ _ => exact h1

def withLow (m : Mem) (l : Nat) : Mem := { next := m.next, low := l, tr := m.tr }

theorem get_withLow (m : Mem) (l b : Nat) : (withLow m l).get b = m.get b := rfl

theorem rel_withLow {B0 : Nat} {φ : Pmap} {m : Mem} {w : World} (h : Rel B0 φ m w) (l : Nat) : Rel B0 φ (withLow m l) w := ⟨h.blocks, h.inj, h.base, h.size, h.fresh⟩

/-- behind a call: if nothing old was written and the result refers to nothing new, the memory is the one before the call -/
def gc (m : Mem) (v : Value) (m1 : Mem) : Value × Mem :=
  bif Nat.ble m.next m1.low && refs m.next 8 v then (v, m) else (v, withLow m1 (min m.low m1.low))

theorem gc_ok {B0 : Nat} {φ φ' : Pmap} {m m1 : Mem} {w w' : World} {v cv : Value} (h : Rel B0 φ m w) (h1 : Rel B0 φ' m1 w') (hv : VRel φ' v cv) (hs : Stp φ (withLow m m.next) w φ' m1 w') :
    After B0 φ m w (gc m v m1).1 (gc m v m1).2 cv w' := by
  unfold gc
  cases hc : Nat.ble m.next m1.low && refs m.next 8 v
  · simp only [cond_false]
    refine ⟨φ', rel_withLow h1 _, hv, ⟨hs.le, hs.next, by simp [withLow]; omega, fun b hb1 hb2 => ?_, hs.os, hs.tape, hs.output, hs.size, hs.frame, hs.img, hs.un⟩⟩
    have := hs.same b (by simp [withLow] at hb1; omega) hb2
    exact this
  · simp only [cond_true]
    simp only [Bool.and_eq_true] at hc
    have hlow := Nat.le_of_ble_eq_true hc.1
    have same : ∀ b, b < m.next → m1.get b = m.get b ∧ φ' b = φ b := fun b hb => hs.same b (by omega) hb
    have hag : ∀ b pl, φ b = some pl → φ' b = some pl := fun b pl hb => by rw [(same b (h.blocks b pl hb).1).2]; exact hb
    refine ⟨φ, ⟨fun b pl hb => ?_, h.inj, h.base, Nat.le_trans h.size hs.size, h.fresh⟩, refs_rel (fun b hb => (same b hb).2) 8 hc.2 hv, ⟨.refl φ, Nat.le_refl _, Nat.le_refl _, fun _ _ _ => ⟨rfl, rfl⟩, hs.os, hs.tape, hs.output, hs.size, hs.frame, fun b pl hb hr => .inl ⟨b, pl, hb, hr, rfl⟩, fun _ _ h => ⟨h, rfl⟩⟩⟩
    obtain ⟨q1, o, q2, q3⟩ := h.blocks b pl hb
    obtain ⟨_, o1, q4, q5⟩ := h1.blocks b pl (hag b pl hb)
    rw [(same b q1).1, q2] at q4
    cases q4
    exact ⟨q1, o, q2, q3.back hag q5⟩

/-- a function's results -/
def evRes (P : Program) : List ResultVar → Env → Mem → Option (List Value)
  | [], _, _ => some []
  | .tmp t :: r, ρ, m => ob (evRes P r ρ m) fun l => some (ρ t :: l)
  | .cell a t :: r, ρ, m => match ti P t with
    | some (i, d) => ob (aLoad (isAggD d) i.size (ρ a) m) fun v => ob (evRes P r ρ m) fun l => some (v :: l)
    | none => none

def resVal (l : List Value) : Value := match l with | [v] => v | l => .tuple ⟨l⟩

def evEnd (P : Program) (fn : Func) (ρ : Env) (m : Mem) : Option Rs := ob (evRes P fn.results.toList ρ m) fun l => some (resVal l, m)

def env0 (args : List Value) : Env := fun i => (args[i]?).getD undef

def evFn (P : Program) (g : Tab) (R : Nat) (dr : Nat → Drawn) (fn : Func) (args : List Value) (m : Mem) : Option Rs :=
  match fn.body with
  | none => none
  | some c => if Nat.ble args.length fn.ntmps then ev P g R (dr fn.ntmps) fn.ntmps c (env0 args) m { nx := evEnd P fn, ex := fun _ _ _ => none, rt := evEnd P fn } else none

def tabStep (P : Program) (R : Nat) (dr : Tab → Nat → Drawn) (g : Tab) : Tab := fun f args m =>
  match P.funcs[f]? with
  | none => none
  | some fn => if fn.name == "runtime.NumGoroutine" then none else
    match evFn P g R (dr g) fn args (withLow m m.next) with
    | some (v, m1) => some (gc m v m1)
    | none => none

def resOne (tmps : Array Value) (r : ResultVar) : Sem Value :=
  match r with
  | .tmp t => pure (tmps.getD t undef)
  | .cell x t => do loadVar t (← asAddr (tmps.getD x undef))

theorem results_eq (fn : Func) (tmps : Array Value) : results fn tmps = (fn.results.mapM (resOne tmps) >>= fun vs => pure (if h : vs.size = 1 then vs[0] else .tuple vs)) := by
  unfold results
  congr 1

theorem evRes_ok {P : Program} {W0 : World} {n : Nat} {φ : Pmap} {ρ : Env} {m : Mem} {a : Act} {w : World} (h : Cfg W0 n φ ρ m a w) : ∀ {rs : List ResultVar} {l : List Value}, evRes P rs ρ m = some l →
    ∃ cl, (rs.mapM (resOne a.tmps)).run P w = .ok cl w ∧ VRels φ l cl
  | [], l, he => by
    simp only [evRes, Option.some.injEq] at he
    subst he
    exact ⟨[], by simp, .nil⟩
  | .tmp t :: rs, l, he => by
    simp only [evRes, ob] at he
    split at he
    · rename_i l' hl'
      cases he
      obtain ⟨cl, k1, k2⟩ := evRes_ok h hl'
      exact ⟨_ :: cl, by simp only [List.mapM_cons, resOne, Sem.run_bind, Sem.run_pure, Result.andThen_ok, k1], .cons _ _ _ _ (h.env t) k2⟩
    · cases he
  | .cell x t :: rs, l, he => by
    simp only [evRes, ob] at he
    split at he
    · rename_i i d hti
      obtain ⟨q1, q2⟩ := ti_some hti
      split at he
      · rename_i v hv
        split at he
        · rename_i l' hl'
          cases he
          obtain ⟨cl, k1, k2⟩ := evRes_ok h hl'
          have hx := h.env x
          obtain ⟨cv, k3, k4⟩ := aLoad_ok (P := P) h.rel hx q1 q2 hv
          refine ⟨cv :: cl, ?_, .cons _ _ _ _ k4 k2⟩
          have k5 : (resOne a.tmps (.cell x t)).run P w = .ok cv w := by
            unfold resOne
            generalize hq : a.tmps.getD x undef = q at hx k3
            generalize ρ x = rx at hx hv
            cases hx <;> first
              | (simp only [aLoad_eq, aLoadO, reduceCtorEq] at hv; done)
              | (simp only [Instr.loadAt, Instr.sureAddr, Sem.run_bind, Sem.run_pure, Result.andThen_ok] at k3
                 simp only [hq, asAddr, Sem.run_bind, Sem.run_pure, Result.andThen_ok]
                 exact k3)
          simp only [List.mapM_cons, Sem.run_bind, Sem.run_pure, k5, Result.andThen_ok, k1]
        · cases he
      · cases he
    · cases he

theorem results_ok {P : Program} {W0 : World} {n : Nat} {φ : Pmap} {ρ : Env} {m : Mem} {a : Act} {w : World} (h : Cfg W0 n φ ρ m a w) {fn : Func} {r : Rs} (he : evEnd P fn ρ m = some r) :
    ∃ cv, (results fn a.tmps).run P w = .ok cv w ∧ VRel φ r.1 cv ∧ r.2 = m := by
  unfold evEnd ob at he
  split at he
  · rename_i l hl
    cases he
    obtain ⟨cl, k1, k2⟩ := evRes_ok h hl
    have hm : (fn.results.mapM (resOne a.tmps)).run P w = .ok cl.toArray w := by
      rw [Array.mapM_eq_mapM_toList]
      simp only [Sem.run_map, k1, Result.andThen_ok]
    refine ⟨if h : cl.toArray.size = 1 then cl.toArray[0] else .tuple cl.toArray, ?_, ?_, rfl⟩
    · rw [results_eq]
      simp only [Sem.run_bind, hm, Result.andThen_ok, Sem.run_pure]
    · clear hl
      cases k2 with
      | nil => exact .tuple _ _ .nil
      | cons v v' l l' hv hl =>
        cases hl with
        | nil => exact hv
        | cons u u' l2 l2' hu hl2 =>
          have : ¬ (v' :: u' :: l2').toArray.size = 1 := by simp
          rw [dif_neg this]
          exact .tuple _ _ (.cons _ _ _ _ hv (.cons _ _ _ _ hu hl2))
  · cases he

theorem tabStep_ok {P : Program} {W0 : World} {g : Tab} {R : Nat} (hT : TabSound P W0 g) {dr : Tab → Nat → Drawn} (hD : ∀ n, DrSound P W0 n (dr g n)) : TabSound P W0 (tabStep P R dr g) := by
  intro φ m w f args cargs v m' hR hB ha hg
  unfold tabStep at hg
  split at hg
  · cases hg
  · rename_i fn hfn
    split at hg
    · cases hg
    · rename_i hnm
      split at hg
      · rename_i u m1 he
        simp only [Option.some.injEq] at hg
        have hv : v = (gc m u m1).1 := by rw [hg]
        have hm : m' = (gc m u m1).2 := by rw [hg]
        subst hv hm
        unfold evFn at he
        split at he
        · cases he
        · rename_i c hc
          split at he
          · rename_i hlen
            have hlen := Nat.le_of_ble_eq_true hlen
            refine .inl ⟨by simp [callFunc, hfn, show ¬ fn.name = "runtime.NumGoroutine" from by simpa using hnm, hc], ?_⟩
            have hal := ha.length
            refine calls_of_wp hfn hc ?_
            have hcfg : Cfg W0 fn.ntmps φ (env0 args) (withLow m m.next) { tmps := cargs.toArray ++ Array.replicate (fn.ntmps - cargs.toArray.size) undef, defers := [] } w := by
              refine ⟨rel_withLow hR _, hB, fun i => ?_, by simp; omega, rfl, Nat.le_refl _⟩
              simp only [env0, Array.getD_eq_getD_getElem?]
              rw [Array.getElem?_append]
              cases hai : args[i]? with
              | none =>
                have hi : args.length ≤ i := by simpa using hai
                rw [if_neg (by simp; omega)]
                rw [Array.getElem?_replicate]
                split <;> exact undef_rel
              | some x =>
                obtain ⟨cx, k1, k2⟩ := ha.get hai
                have hi : i < cargs.length := by
                  rcases Nat.lt_or_ge i cargs.length with hh | hh
                  · exact hh
                  · rw [List.getElem?_eq_none hh] at k1; cases k1
                rw [if_pos (by simpa using hi)]
                simp only [List.getElem?_toArray, k1, Option.getD_some]
                exact k2
            have fin : ∀ φ' ρ' m'' a' w', Cfg W0 fn.ntmps φ' ρ' m'' a' w' → Stp φ (withLow m m.next) w φ' m'' w' → evEnd P fn ρ' m'' = some (u, m1) →
                a'.defers = [] ∧ ∃ cv, (results fn a'.tmps).run P w' = .ok cv w' ∧ ∃ x, Ending.returned cv = .returned x ∧ After W0.heap.size φ m w (gc m u m1).1 (gc m u m1).2 x w' := fun φ' ρ' m'' a' w' h1 h2 h3 => by
              obtain ⟨cv, k1, k2, k3⟩ := results_ok h1 h3
              simp only at k2 k3
              subst k3
              exact ⟨h1.defers, cv, k1, cv, rfl, gc_ok hR h1.rel k2 h2⟩
            refine ev_ok hT (hD fn.ntmps) c φ _ _ _ w _ _ φ (withLow m m.next) w hcfg (.refl _ _ _) he ⟨?_, ?_, ?_⟩
            · intro φ' ρ' m'' a' w' h1 h2 h3
              exact fin φ' ρ' m'' a' w' h1 h2 h3
            · intro id φ' ρ' m'' a' w' h1 h2 h3
              cases h3
            · intro φ' ρ' m'' a' w' h1 h2 h3
              exact fin φ' ρ' m'' a' w' h1 h2 h3
          · cases he
      · cases hg

end Go.Ab

namespace Go.Ab

/-- what a new block's name is handed on as -/
inductive NewV where
  | ptr | mp
  | sl (size len r : Nat)

def NewV.val : NewV → Nat → Value
  | .ptr, b => .pointer (some ⟨b, 0, some 0⟩)
  | .mp, b => .map (some b)
  | .sl size len r, b => .slice (some ⟨b, 0, some size⟩) len r

/-- the block that an operation makes, if it makes one and does nothing else -/
def aOf (P : Program) (f : Operand → Value) (o : Oper) : Option (AObj × NewV) :=
  match o.op with
  | .alloc t => match tz P t with | some (_, z) => some (.cells z.cells.toList 0 0 false (some (2 * t + 1)), .ptr) | none => none
  | .box t x => some (.cells (f x).cells.toList 0 0 false (some (2 * t + 1)), .ptr)
  | .buildSlice t len parts => match P.underlying t with
    | some (.slice e) => match tz P e with
      | some (i, z) => if Nat.ble (len * i.size) 16777216 then
          match fill (fun k => some (k * i.size, i.size)) (rep len z.cells.toList) (parts.toList.map fun (i, x) => (i, f x)) with
          | some cs => if i.size = 0 then none else some (.cells cs 0 0 false (some (2 * e)), .sl i.size len 1)
          | none => none
        else none
      | none => none
    | _ => none
  | .makeMap _ none => some (.map [] 0, .mp)
  | .makeSlice t l c => match P.underlying t with
    | some (.slice e) => match tz P e with
      | some (i, z) => match f l, f c with
        | .int _ l, .int _ c => if decide (0 ≤ l) && decide (l ≤ c) && fits c.toNat i.bytes && Nat.ble 1 i.size then some (.cells (rep l.toNat z.cells.toList) 0 0 false (some (2 * e)), .sl i.size l.toNat (if l = c then 1 else 0)) else none
        | _, _ => none
      | none => none
    | _ => none
  | .range t x => match P.underlying t with
    | some .string => match f x with | .string s => some (.siter s 0, .ptr) | _ => none
    | _ => none
  | .convert s d x => match convOf P s d, f x with
    | .bytes, .string s => some (.cells (s.data.toList.map fun b => .int .u8 b.toNat) 0 0 false none, .sl 1 s.size 0)
    | _, _ => none
  | _ => none

def isAlloc (P : Program) (o : Op) : Bool :=
  match o with
  | .convert s d _ => match convOf P s d with | .bytes => true | _ => false
  | .alloc _ | .box .. | .buildSlice .. | .makeSlice .. | .makeMap .. | .range .. => true
  | _ => false

theorem aOf_some {P : Program} {f : Operand → Value} {o : Oper} {ob : AObj} {nv : NewV} (h : aOf P f o = some (ob, nv)) (m : Mem) : evOp P f m o = some (nv.val m.next, m.push ob) := by
  obtain ⟨dst, op, ty, pos, after, guard⟩ := o
  unfold aOf at h
  unfold evOp
  cases op <;> simp only [reduceCtorEq] at h ⊢
  case alloc t =>
    cases hz : tz P t with
    | none => rw [hz] at h; cases h
    | some p => obtain ⟨i, z⟩ := p; rw [hz] at h; cases h; rfl
  case box t x => cases h; rfl
  case buildSlice t len parts =>
    split at h
    · rename_i e he
      rw [he]
      simp only
      split at h
      · rename_i i z hz
        rw [hz]
        simp only
        split at h
        · rename_i hb
          rw [if_pos hb]
          split at h
          · rename_i cs hcs
            split at h
            · cases h
            · rename_i h0
              cases h
              simp only [aBuildSlice]
              rw [hcs]
              simp only [if_neg h0]
              rfl
          · cases h
        · cases h
      · cases h
    · cases h
  case convert s d x =>
    split at h
    · rename_i s' hc hx
      cases h
      rw [hc, hx]
      rfl
    · cases h
  case makeMap t r =>
    cases r with
    | none => cases h; rfl
    | some _ => cases h
  case makeSlice t l c =>
    split at h
    · rename_i e he
      rw [he]
      simp only
      split at h
      · rename_i i z hz
        rw [hz]
        simp only
        split at h
        · rename_i l' c' hl hc
          split at h
          · rename_i hcond
            cases h
            rw [hl, hc]
            simp only [aMakeSlice]
            rw [if_pos hcond]
            rfl
          · cases h
        · cases h
      · cases h
    · cases h
  case range t x =>
    split at h
    · rename_i ht
      rw [ht]
      simp only
      split at h
      · rename_i s hs
        cases h
        rw [hs]
        rfl
      · cases h
    · cases h

theorem aOf_of {P : Program} {f : Operand → Value} {m m' : Mem} {o : Oper} {v : Value} (hk : isAlloc P o.op = true) (h : evOp P f m o = some (v, m')) : ∃ ob nv, aOf P f o = some (ob, nv) ∧ v = nv.val m.next ∧ m' = m.push ob := by
  have key : (∃ p, aOf P f o = some p) → ∃ ob nv, aOf P f o = some (ob, nv) ∧ v = nv.val m.next ∧ m' = m.push ob := fun ⟨p, hp⟩ => by
    obtain ⟨ob, nv⟩ := p
    have := aOf_some hp m
    rw [h] at this
    cases this
    exact ⟨ob, nv, hp, rfl, rfl⟩
  refine key ?_
  obtain ⟨dst, op, ty, pos, after, guard⟩ := o
  unfold aOf
  unfold evOp at h
  cases op <;> simp only [isAlloc, Bool.false_eq_true] at hk h ⊢
  case alloc t =>
    cases hz : tz P t with
    | none => rw [hz] at h; cases h
    | some p => exact ⟨_, rfl⟩
  case box t x => exact ⟨_, rfl⟩
  case buildSlice t len parts =>
    split at h
    · rename_i e he
      simp only [he]
      split at h
      · rename_i i z hz
        simp only [hz]
        split at h
        · rename_i hb
          rw [if_pos hb]
          simp only [aBuildSlice] at h
          split at h
          · rename_i cs hcs
            rw [hcs]
            split at h
            · cases h
            · rename_i h0
              simp only [if_neg h0]
              exact ⟨_, rfl⟩
          · cases h
        · cases h
      · cases h
    · cases h
  case convert s d x =>
    split at hk
    · rename_i hc
      rw [hc] at h ⊢
      generalize f x = y at h ⊢
      cases y <;> simp only [conv, reduceCtorEq] at h
      exact ⟨_, rfl⟩
    · cases hk
  case makeMap t r =>
    cases r with
    | none => exact ⟨_, rfl⟩
    | some _ => cases h
  case makeSlice t l c =>
    split at h
    · rename_i e he
      simp only [he]
      split at h
      · rename_i i z hz
        simp only [hz]
        simp only [aMakeSlice] at h
        split at h
        · rename_i l' _ c' hl hc
          rw [hl, hc]
          simp only
          split at h
          · rename_i hcond
            rw [if_pos hcond]
            exact ⟨_, rfl⟩
          · cases h
        · cases h
      · cases h
    · cases h
  case range t x =>
    split at h
    · rename_i ht
      simp only [ht]
      simp only [aRangeStr] at h
      split at h
      · rename_i s hs
        rw [hs]
        exact ⟨_, rfl⟩
      · cases h
    · cases h

def Grounded (φ : Pmap) (l : List Value) : Prop := ∀ v ∈ l, ∃ c, VRel φ v c

theorem Grounded.of_rels {φ : Pmap} : ∀ {l c : List Value}, VRels φ l c → Grounded φ l
  | _, _, .nil => fun v hv => by cases hv
  | _, _, .cons v v' l l' h hl => fun u hu => by
    rcases List.mem_cons.1 hu with rfl | hu
    · exact ⟨v', h⟩
    · exact Grounded.of_rels hl u hu

theorem Grounded.append {φ : Pmap} {a b : List Value} (ha : Grounded φ a) (hb : Grounded φ b) : Grounded φ (a ++ b) := fun v hv => by
  rcases List.mem_append.1 hv with h | h
  · exact ha v h
  · exact hb v h

theorem Grounded.rep {φ : Pmap} {z : List Value} (hz : Grounded φ z) : ∀ n, Grounded φ (rep n z)
  | 0 => fun v hv => by cases hv
  | n + 1 => hz.append (Grounded.rep hz n)

theorem Grounded.fill {φ : Pmap} (place : Nat → Option (Nat × Nat)) : ∀ (l : List (Nat × Value)) (a r : List Value), (∀ p ∈ l, Grounded φ p.2.cells.toList) → Grounded φ a → fill place a l = some r → Grounded φ r
  | [], a, r, _, ha, h => by simp only [Ab.fill, Option.some.injEq] at h; rw [← h]; exact ha
  | (i, v) :: l, a, r, hl, ha, h => by
    simp only [Ab.fill] at h
    split at h
    · split at h
      · refine Grounded.fill place l _ r (fun p hp => hl p (List.mem_cons_of_mem _ hp)) ?_ h
        unfold fillAt
        exact (Grounded.append (fun u hu => ha u (List.mem_of_mem_take hu)) (hl _ List.mem_cons_self)).append (fun u hu => ha u (List.mem_of_mem_drop hu))
      · cases h
    · cases h

theorem aOf_ground {P : Program} {φ : Pmap} {f cf : Operand → Value} {o : Oper} (hf : ∀ x ∈ o.op.operands.toList, VRel φ (f x) (cf x)) {ob : AObj} {nv : NewV} (h : aOf P f o = some (ob, nv)) :
    match ob with | .cells c _ _ _ _ => Grounded φ c | .map es _ => es = [] | .siter _ _ => True | .miter _ _ => False := by
  obtain ⟨dst, op, ty, pos, after, guard⟩ := o
  have gz : ∀ {i : TypeInfo} {z : Value} {t : TypeId}, tz P t = some (i, z) → Grounded φ z.cells.toList := fun hz => Grounded.of_rels (cells_rel (plainV_rel (tz_some hz).2.2.1))
  unfold aOf at h
  cases op <;> simp only [reduceCtorEq] at h hf
  case alloc t =>
    split at h
    · rename_i i z hz
      cases h
      exact gz hz
    · cases h
  case box t x =>
    cases h
    exact Grounded.of_rels (cells_rel (hf x (by simp [Op.operands])))
  case buildSlice t len parts =>
    split at h
    · split at h
      · rename_i i z hz
        split at h
        · split at h
          · rename_i cs hcs
            split at h
            · cases h
            · cases h
              refine Grounded.fill _ _ _ _ (fun p hp => ?_) ((gz hz).rep _) hcs
              obtain ⟨q, hq, rfl⟩ := List.mem_map.1 hp
              exact Grounded.of_rels (cells_rel (hf q.2 (by simp only [Op.operands, List.mem_map]; exact ⟨q, hq, rfl⟩)))
          · cases h
        · cases h
      · cases h
    · cases h
  case convert s d x =>
    split at h
    · cases h
      intro v hv
      obtain ⟨b, _, rfl⟩ := List.mem_map.1 hv
      exact ⟨_, .int _ _⟩
    · cases h
  case makeMap =>
    split at h <;> first | (cases h; done) | skip
    all_goals (rename_i heq; cases heq)
    all_goals (cases h)
    all_goals first | rfl | trivial | skip
  case makeSlice t l c =>
    split at h
    · split at h
      · rename_i i z hz
        split at h
        · split at h
          · cases h
            exact (gz hz).rep _
          · cases h
        · cases h
      · cases h
    · cases h
  case range t x =>
    split at h
    · split at h
      · cases h
        trivial
      · cases h
    · cases h

end Go.Ab

namespace Go.Ab

theorem NewV.val_rel {φ ψ : Pmap} {nv : NewV} {b b' : Nat} {cv : Value} (h : VRel φ (nv.val b) cv) (e : ψ b' = φ b) : VRel ψ (nv.val b') cv := by
  cases nv with
  | ptr =>
    cases h with
    | ptr _ _ _ B O pl hb hr hp => exact .ptr _ _ _ B O pl (by rw [e]; exact hb) hr hp
  | mp =>
    cases h with
    | map _ R pl hb hp => exact .map _ R pl (by rw [e]; exact hb) hp
  | sl size len r =>
    cases h with
    | slice _ _ _ _ _ B O cap pl hb hes hn hr hp => exact .slice _ _ _ _ _ B O cap pl (by rw [e]; exact hb) hes hn hr hp

theorem NewV.val_there {φ : Pmap} {nv : NewV} {b : Nat} {cv : Value} (h : VRel φ (nv.val b) cv) : ∃ pl, φ b = some pl := by
  cases nv with
  | ptr => cases h with | ptr _ _ _ B O pl hb hr hp => exact ⟨pl, hb⟩
  | mp => cases h with | map _ R pl hb hp => exact ⟨pl, hb⟩
  | sl size len r => cases h with | slice _ _ _ _ _ B O cap pl hb hes hn hr hp => exact ⟨pl, hb⟩

/-- a block that the abstract memory holds already is made now -/
theorem late_alloc {P : Program} {B0 : Nat} {φ : Pmap} {m : Mem} {w : World} (hR : Rel B0 φ m w) {f cf : Operand → Value} (o : Oper) (hf : ∀ x ∈ o.op.operands.toList, VRel φ (f x) (cf x)) {ob : AObj} {nv : NewV}
    (ha : aOf P f o = some (ob, nv)) {b : Nat} (hb : φ b = none) (hg : m.get b = some ob) (hlt : b < m.next) :
    ∃ cv w' pl, Done P cf o w cv w' ∧ Rel B0 (φ.upd b pl) m w' ∧ VRel (φ.upd b pl) (nv.val b) cv ∧ φ.le (φ.upd b pl) ∧
      (∀ (φ0 : Pmap) (m0 : Mem) (w0 : World), Stp φ0 m0 w0 φ m w → m0.next ≤ b → Stp φ0 m0 w0 (φ.upd b pl) m w') := by
  have hev := aOf_some ha (withLow m m.next)
  obtain ⟨cv, w', φ', h1, h2, h3, h4⟩ := evOp_ok (rel_withLow hR m.next) o hf hev
  obtain ⟨pl, hpl⟩ := NewV.val_there h3
  simp only [withLow] at hpl
  have same : ∀ x, x < m.next → φ' x = φ x := fun x hx => (h4.same x (by simp [withLow]; exact hx) hx).2
  have hget : ∀ x, x < m.next → ((withLow m m.next).push ob).get x = m.get x := fun x hx => by
    rw [Mem.get_push, if_neg (by simp [withLow]; omega)]; rfl
  have hag : ∀ x p, φ x = some p → φ' x = some p := fun x p hx => by rw [same x (hR.blocks x p hx).1]; exact hx
  have hle : φ.le (φ.upd b pl) := fun x p hx => ⟨p, by
    have : x ≠ b := fun e => by rw [e, hb] at hx; cases hx
    rw [Pmap.upd_other pl this]; exact hx, .inl rfl⟩
  have hgr := aOf_ground hf ha
  -- the new block
  have hnew : BRel (φ.upd b pl) w' pl ob := by
    obtain ⟨_, o', q1, q2⟩ := h2.blocks m.next pl hpl
    rw [Mem.get_push, if_pos (by simp [withLow])] at q1
    cases q1
    cases ob with
    | cells c ver fro ro ty' =>
      obtain ⟨a1, a2, a3, C', ty', lo', hi', a4, a5, a6, a7⟩ := q2
      refine ⟨a1, a2, a3, C', ty', lo', hi', a4, a5, fun i v hi hv => ?_, a7⟩
      obtain ⟨c1, k2, k3⟩ := a6 i v hi hv
      obtain ⟨c0, k0⟩ := hgr v (List.mem_of_getElem? hv)
      exact ⟨c1, k2, (k0.back hag k3).mono hle⟩
    | map es clock =>
      simp only at hgr
      subst hgr
      obtain ⟨a1, a2, es1, a3, a4⟩ := q2
      refine ⟨a1, a2, es1, a3, ?_⟩
      generalize es1.toList = L at a4
      cases a4
      exact .nil
    | siter s pos => exact q2
    | miter _ _ => exact q2
  have hold : ∀ x p, φ x = some p → ∃ o, m.get x = some o ∧ BRel (φ.upd b pl) w' p o := fun x p hx => by
    obtain ⟨q1, o, q2, q3⟩ := hR.blocks x p hx
    obtain ⟨_, o', q4, q5⟩ := h2.blocks x p (hag x p hx)
    rw [hget x q1, q2] at q4
    cases q4
    exact ⟨o, q2, (q3.back hag q5).mono hle⟩
  refine ⟨cv, w', pl, h1, ⟨fun x p hx => ?_, fun x x' p p' hx hx' hr heq => ?_, fun x p hx hr => ?_, h2.size, hR.fresh⟩, NewV.val_rel h3 (by rw [Pmap.upd_same]; exact hpl.symm), hle, fun φ0 m0 w0 s hm0 => ?_⟩
  · by_cases hxb : x = b
    · subst hxb
      rw [Pmap.upd_same] at hx
      cases hx
      exact ⟨hlt, ob, hg, hnew⟩
    · rw [Pmap.upd_other pl hxb] at hx
      exact ⟨(hR.blocks x p hx).1, hold x p hx⟩
  · by_cases hxb : x = b
    · by_cases hxb' : x' = b
      · rw [hxb, hxb']
      · subst hxb
        rw [Pmap.upd_same] at hx
        rw [Pmap.upd_other pl hxb'] at hx'
        cases hx
        have := h2.inj m.next x' pl p' hpl (hag _ _ hx') hr heq
        have := (hR.blocks x' p' hx').1
        omega
    · by_cases hxb' : x' = b
      · subst hxb'
        rw [Pmap.upd_same] at hx'
        rw [Pmap.upd_other pl hxb] at hx
        cases hx'
        have := h2.inj x m.next p pl (hag _ _ hx) hpl hr heq
        have := (hR.blocks x p hx).1
        omega
      · rw [Pmap.upd_other pl hxb] at hx
        rw [Pmap.upd_other pl hxb'] at hx'
        exact hR.inj x x' p p' hx hx' hr heq
  · by_cases hxb : x = b
    · subst hxb
      rw [Pmap.upd_same] at hx
      cases hx
      exact h2.base m.next pl hpl hr
    · rw [Pmap.upd_other pl hxb] at hx
      exact hR.base x p hx hr
  · have himg : pl.ro = false → w.heap.size ≤ pl.blk := fun hr => by
      rcases h4.img m.next pl hpl hr with ⟨b', pl', g1, g2, g3⟩ | g1
      · have h5 := (hR.blocks b' pl' g1).1
        have := h2.inj b' m.next pl' pl (hag _ _ g1) hpl g2 g3
        omega
      · exact g1
    refine ⟨s.le.trans hle, s.next, s.low, fun x hx1 hx2 => ?_, h4.os.trans s.os, h4.tape.trans s.tape, h4.output.trans s.output, Nat.le_trans s.size h4.size, fun B hB hn => ?_, fun x p hx hr => ?_, fun x hx1 hx2 => ?_⟩
    · obtain ⟨q1, q2⟩ := s.same x hx1 hx2
      exact ⟨q1, by rw [Pmap.upd_other pl (by omega)]; exact q2⟩
    · rw [h4.frame B (Nat.lt_of_lt_of_le hB s.size) ?_, s.frame B hB hn]
      intro b' p' hb' hr' e
      rcases s.img b' p' hb' hr' with ⟨b2, pl2, g1, g2, g3⟩ | g1
      · exact hn b2 pl2 g1 g2 (g3.trans e)
      · omega
    · by_cases hxb : x = b
      · subst hxb
        rw [Pmap.upd_same] at hx
        cases hx
        exact .inr (Nat.le_trans s.size (himg hr))
      · rw [Pmap.upd_other pl hxb] at hx
        exact s.img x p hx hr
    · obtain ⟨q1, q2⟩ := s.un x hx1 hx2
      exact ⟨by rw [Pmap.upd_other pl (by omega)]; exact q1, q2⟩

/-- a block of which the machine knows nothing yet -/
theorem rel_ahead {B0 : Nat} {φ : Pmap} {m : Mem} {w : World} (h : Rel B0 φ m w) (ob : AObj) : Rel B0 φ (m.push ob) w ∧ φ m.next = none ∧ ∀ φ0 m0 w0, Stp φ0 m0 w0 φ m w → Stp φ0 m0 w0 φ (m.push ob) w := by
  have hget : ∀ x, x < m.next → (m.push ob).get x = m.get x := fun x hx => by rw [Mem.get_push, if_neg (by omega)]
  refine ⟨⟨fun b pl hb => ?_, h.inj, h.base, h.size, fun b hb => ?_⟩, ?_, fun φ0 m0 w0 s => ⟨s.le, by have := s.next; simp; omega, s.low, fun b h1 h2 => ?_, s.os, s.tape, s.output, s.size, s.frame, s.img, fun b h1 h2 => ?_⟩⟩
  · obtain ⟨q1, o, q2, q3⟩ := h.blocks b pl hb
    exact ⟨by simp; omega, o, by rw [hget b q1]; exact q2, q3⟩
  · simp at hb
    rw [Mem.get_push, if_neg (by omega)]
    exact h.fresh b (by omega)
  · cases hx : φ m.next with
    | none => rfl
    | some pl => have := (h.blocks _ _ hx).1; omega
  · have hn := s.next
    have := s.same b (by simpa using h1) h2
    exact ⟨by rw [hget b (by omega)]; exact this.1, this.2⟩
  · have hn := s.next
    obtain ⟨q1, q2⟩ := s.un b h1 h2
    exact ⟨q1, by rw [hget b (by omega)]; exact q2⟩

end Go.Ab

namespace Go.Ab

/-- operations that look at no memory -/
def isPure (P : Program) (o : Op) : Bool :=
  match o with
  | .move _ | .assign _ | .pick .. | .build .. | .nilCheck _ | .unOp .. | .makeInterface .. | .makeFunc .. | .fieldAddr .. | .field .. | .indexAddr .. | .index .. | .extract .. => true
  | .binOp _ t _ _ _ => !ptrInf P t
  | .slice t _ _ _ _ => match P.underlying t with | some .string | some (.slice _) => true | _ => false
  | .convert s d _ => match convOf P s d with | .bytes | .str | .toU _ | .fromU _ => false | _ => true
  | .call { callee := .builtin .max, .. } | .call { callee := .builtin .min, .. } => true
  | .call { callee := .builtin .len, argTypes, .. } => match (argTypes[0]?).bind P.underlying with | some (.map _ _) => false | _ => true
  | _ => false

/-- operations that look at memory and leave it as it is -/
def isRead (P : Program) (o : Op) : Bool :=
  match o with
  | .load .. | .lookup .. | .binOp .. => true
  | .slice .. => true
  | .convert s d _ => match convOf P s d with | .bytes => false | _ => true
  | .call { callee := .builtin .len, .. } => true
  | _ => false

def Cv.plain (c : Cv) : Bool := match c with | .bytes | .str | .toU _ | .fromU _ => false | _ => true

theorem conv_pure {c : Cv} (hc : c.plain = true) {x v : Value} {m m1 : Mem} (h : conv c x m = some (v, m1)) : m1 = m ∧ ∀ m', conv c x m' = some (v, m') := by
  cases c <;> simp only [Cv.plain, Bool.false_eq_true] at hc <;> cases x <;> simp only [conv, reduceCtorEq, Option.some.injEq, Prod.mk.injEq] at h
  all_goals (obtain ⟨rfl, rfl⟩ := h; exact ⟨rfl, fun _ => rfl⟩)

theorem conv_read {c : Cv} (hc : c ≠ .bytes) {x v : Value} {m m1 : Mem} (h : conv c x m = some (v, m1)) : m1 = m := by
  cases hp : c.plain
  · cases c <;> simp only [Cv.plain, reduceCtorEq, ne_eq, not_true_eq_false] at hp hc
    case str =>
      cases x <;> simp only [conv, reduceCtorEq] at h
      rename_i a n r
      cases a with
      | none => simp only [conv, Option.some.injEq, Prod.mk.injEq] at h; exact h.2.symm
      | some a =>
        simp only [conv] at h
        split at h
        · split at h
          · cases h; rfl
          · cases h
        · cases h
    case toU =>
      cases x <;> simp only [conv, reduceCtorEq] at h
      rename_i a
      cases a with
      | none => simp only [conv, Option.some.injEq, Prod.mk.injEq] at h; exact h.2.symm
      | some a =>
        simp only [conv] at h
        split at h
        · split at h
          · simp only [Option.some.injEq, Prod.mk.injEq] at h; exact h.2.symm
          · cases h
        · cases h
    case fromU =>
      cases x <;> simp only [conv, reduceCtorEq] at h
      rename_i a
      cases a with
      | none => simp only [conv, Option.some.injEq, Prod.mk.injEq] at h; exact h.2.symm
      | some a =>
        simp only [conv] at h
        split at h
        · split at h
          · simp only [Option.some.injEq, Prod.mk.injEq] at h; exact h.2.symm
          · cases h
        · cases h
  · exact (conv_pure hp h).1

theorem pur_pure {x : Option Value} {m m1 : Mem} {v : Value} (h : pur x m = some (v, m1)) : m1 = m ∧ ∀ m', pur x m' = some (v, m') := by
  obtain ⟨rfl, rfl⟩ := pur_some h
  exact ⟨rfl, fun _ => rfl⟩

theorem some_pure {x v : Value} {m m1 : Mem} (h : some (x, m) = some (v, m1)) : m1 = m ∧ ∀ m' : Mem, some (x, m') = some (v, m') := by
  cases h; exact ⟨rfl, fun _ => rfl⟩

theorem evOp_pure {P : Program} {f : Operand → Value} {m m1 : Mem} {o : Oper} {v : Value} (hk : isPure P o.op = true) (h : evOp P f m o = some (v, m1)) : m1 = m ∧ ∀ m', evOp P f m' o = some (v, m') := by
  obtain ⟨dst, op, ty, pos, after, guard⟩ := o
  unfold evOp at h ⊢
  cases op <;> simp only [isPure, Bool.false_eq_true] at hk h ⊢
  case move => exact some_pure h
  case assign => exact some_pure h
  case pick =>
    unfold pk at h ⊢
    split at h <;> first | exact some_pure h | cases h
  case build =>
    split at h
    · split at h
      · split at h
        · exact pur_pure h
        · cases h
      · split at h
        · exact pur_pure h
        · cases h
      · cases h
    · cases h
  case nilCheck => exact pur_pure h
  case binOp b t x y yt =>
    simp only [Bool.not_eq_true'] at hk
    rw [hk] at h ⊢
    exact pur_pure h
  case unOp => exact pur_pure h
  case convert s d x =>
    refine conv_pure ?_ h
    unfold Cv.plain
    exact hk
  case makeInterface t x => split at h <;> first | exact some_pure h | cases h
  case makeFunc => exact some_pure h
  case slice t x lo hi mx =>
    split at h
    · split at h
      · exact pur_pure h
      · cases h
    · split at h
      · split at h
        · exact pur_pure h
        · split at h
          · exact pur_pure h
          · cases h
      · cases h
    · rename_i h1 h2
      split at hk
      · rename_i h3; exact absurd h3 h1
      · rename_i e h3; exact absurd h3 (h2 e)
      · cases hk
  case fieldAddr =>
    split at h
    · split at h
      · split at h
        · split at h
          · rename_i hb
            simp only [if_pos hb]
            exact pur_pure h
          · cases h
        · cases h
      · cases h
    · cases h
  case field =>
    split at h
    · split at h
      · split at h
        · exact pur_pure h
        · cases h
      · cases h
    · cases h
  case indexAddr =>
    split at h
    · split at h
      · exact pur_pure h
      · cases h
    · split at h
      · exact pur_pure h
      · cases h
    · cases h
  case index =>
    split at h
    · split at h
      · exact pur_pure h
      · cases h
    · exact pur_pure h
    · cases h
  case extract => exact pur_pure h
  case call c =>
    obtain ⟨callee, args, tys⟩ := c
    cases callee <;> simp only [Bool.false_eq_true, reduceCtorEq] at hk h ⊢
    rename_i b
    cases b <;> simp only [Bool.false_eq_true] at hk h ⊢
    case len =>
      unfold evBuiltin at h ⊢
      cases hargs : args.toList.map f with
      | nil => rw [hargs] at h; cases h
      | cons x l =>
        rw [hargs] at h
        cases l with
        | cons y l => cases l <;> cases h
        | nil =>
          cases htys : tys.toList with
          | nil => rw [htys] at h; cases h
          | cons t l =>
            rw [htys] at h
            cases l with
            | cons y l => cases h
            | nil =>
              have ht0 : tys[0]? = some t := by
                rw [← Array.getElem?_toList, htys]; rfl
              rw [ht0] at hk
              simp only [Option.bind_some] at hk
              simp only at h ⊢
              split at h
              · cases x <;> exact pur_pure h
              · cases x <;> exact pur_pure h
              · rename_i a b hm
                rw [hm] at hk
                cases hk
              · exact some_pure h
              · split at h
                · exact some_pure h
                · cases h
              · cases h
    case max =>
      unfold evBuiltin at h ⊢
      cases hargs : args.toList.map f with
      | nil => rw [hargs] at h; cases h
      | cons x l =>
        rw [hargs] at h
        cases l with
        | nil => cases h
        | cons y l =>
          cases l with
          | cons z l => cases h
          | nil => exact pur_pure h
    case min =>
      unfold evBuiltin at h ⊢
      cases hargs : args.toList.map f with
      | nil => rw [hargs] at h; cases h
      | cons x l =>
        rw [hargs] at h
        cases l with
        | nil => cases h
        | cons y l =>
          cases l with
          | cons z l => cases h
          | nil => exact pur_pure h

theorem evOp_read {P : Program} {f : Operand → Value} {m m1 : Mem} {o : Oper} {v : Value} (hk : isRead P o.op = true) (h : evOp P f m o = some (v, m1)) : m1 = m := by
  obtain ⟨dst, op, ty, pos, after, guard⟩ := o
  unfold evOp at h
  cases op <;> simp only [isRead, Bool.false_eq_true] at hk h
  case load => split at h <;> first | exact (pur_some h).2 | cases h
  case binOp b t x y yt =>
    cases hp : ptrInf P t
    · rw [hp] at h; exact (pur_some h).2
    · rw [hp] at h; exact (pur_some h).2
  case lookup =>
    split at h
    · split at h
      · split at h
        · exact (pur_some h).2
        · cases h
      · cases h
    · cases h
  case convert s d x =>
    refine conv_read ?_ h
    intro e; rw [e] at hk; cases hk
  case slice t x lo hi mx =>
    split at h
    · split at h
      · exact (pur_some h).2
      · cases h
    · split at h
      · split at h
        · exact (pur_some h).2
        · split at h
          · exact (pur_some h).2
          · cases h
      · cases h
    · split at h
      · split at h
        · split at h
          · exact (pur_some h).2
          · cases h
        · cases h
      · cases h
  case call c =>
    obtain ⟨callee, args, tys⟩ := c
    cases callee <;> simp only [Bool.false_eq_true, reduceCtorEq] at hk h
    rename_i b
    cases b <;> simp only [Bool.false_eq_true] at hk h
    unfold evBuiltin at h
    cases hargs : args.toList.map f with
    | nil => rw [hargs] at h; cases h
    | cons x l =>
      rw [hargs] at h
      cases l with
      | cons y l => cases l <;> cases h
      | nil =>
        cases htys : tys.toList with
        | nil => rw [htys] at h; cases h
        | cons t l =>
          rw [htys] at h
          cases l with
          | cons y l => cases h
          | nil =>
            simp only at h
            split at h
            · exact (pur_some h).2
            · exact (pur_some h).2
            · exact (pur_some h).2
            · cases h; rfl
            · split at h
              · cases h; rfl
              · cases h
            · cases h

theorem map_congr {α : Type} {f f' : Operand → α} (l : List Operand) (h : ∀ x ∈ l, f x = f' x) : l.map f = l.map f' := List.map_congr_left h

theorem evOp_congr {P : Program} {f f' : Operand → Value} {m : Mem} {o : Oper} (h : ∀ x ∈ o.op.operands.toList, f x = f' x) : evOp P f m o = evOp P f' m o := by
  obtain ⟨dst, op, ty, pos, after, guard⟩ := o
  have pairs : ∀ ps : Array (Nat × Operand), (∀ x ∈ ps.toList.map (·.2), f x = f' x) → (ps.toList.map fun (i, x) => (i, f x)) = (ps.toList.map fun (i, x) => (i, f' x)) := fun ps hp =>
    List.map_congr_left fun p hm => by
      obtain ⟨i, x⟩ := p
      simp only [hp x (List.mem_map.2 ⟨(i, x), hm, rfl⟩)]
  cases op <;> simp only [Op.operands] at h <;> unfold evOp <;> simp only
  case build t ps => rw [pairs ps (fun x hx => h x (by simpa using hx))]
  case buildSlice t n ps => rw [pairs ps (fun x hx => h x (by simpa using hx))]
  case makeFunc fn first captured =>
    rw [map_congr first.toList (fun x hx => h x (by simp at hx ⊢; exact .inl hx)), map_congr captured.toList (fun x hx => h x (by simp at hx ⊢; exact .inr hx))]
  case call c =>
    obtain ⟨callee, args, tys⟩ := c
    cases callee <;> simp only
    rw [map_congr args.toList (fun x hx => h x (by simp [Call.operands] at hx ⊢; exact hx))]
  case slice t x lo hi mx => cases lo <;> cases hi <;> cases mx <;> simp_all
  case next x b =>
    cases b
    · rfl
    · simp only; rw [h x (by simp)]
  all_goals (first | rfl | (simp_all; done))

end Go.Ab

namespace Go.Ab
open Go.RowKit (Below)

/-- the same value: `d` how deep it is looked into -/
def vsame : Nat → Value → Value → Bool
  | 0, _, _ => false
  | d + 1, a, b => match a, b with
    | .bool x, .bool y => decide (x = y)
    | .int k x, .int l y => decide (k = l) && decide (x = y)
    | .string x, .string y => decide (x = y)
    | .pointer x, .pointer y => decide (x = y)
    | .slice x n r, .slice y n' r' => decide (x = y) && decide (n = n') && decide (r = r')
    | .map x, .map y => decide (x = y)
    | .nilFunc, .nilFunc => true
    | .nilIface, .nilIface => true
    | .iface t x, .iface u y => decide (t = u) && vsame d x y
    | .func (.func f) x c, .func (.func g) y e => decide (f = g) && vsames d x.toList y.toList && vsames d c.toList e.toList
    | .agg x, .agg y => vsames d x.toList y.toList
    | .tuple x, .tuple y => vsames d x.toList y.toList
    | _, _ => false
where
  vsames (d : Nat) : List Value → List Value → Bool
    | [], [] => true
    | a :: x, b :: y => vsame d a b && vsames d x y
    | _, _ => false

theorem vsame_eq : ∀ (d : Nat) (a b : Value), vsame d a b = true → a = b := by
  intro d
  induction d with
  | zero => intro a b h; simp [vsame] at h
  | succ d ih =>
    have ihs : ∀ (x y : List Value), vsame.vsames d x y = true → x = y := by
      intro x
      induction x with
      | nil => intro y h; cases y with
        | nil => rfl
        | cons => simp [vsame.vsames] at h
      | cons a x ihx => intro y h; cases y with
        | nil => simp [vsame.vsames] at h
        | cons b y =>
          simp only [vsame.vsames, Bool.and_eq_true] at h
          rw [ih a b h.1, ihx y h.2]
    intro a b h
    unfold vsame at h
    split at h <;> (try simp only [Bool.and_eq_true, decide_eq_true_eq, Bool.false_eq_true] at h)
    case h_1 => rw [h]
    case h_2 => rw [h.1, h.2]
    case h_3 => rw [h]
    case h_4 => rw [h]
    case h_5 => rw [h.1.1, h.1.2, h.2]
    case h_6 => rw [h]
    case h_7 => rfl
    case h_8 => rfl
    case h_9 => rw [h.1, ih _ _ h.2]
    case h_10 => rw [h.1.1, Array.toList_inj.1 (ihs _ _ h.1.2), Array.toList_inj.1 (ihs _ _ h.2)]
    case h_11 => rw [Array.toList_inj.1 (ihs _ _ h)]
    case h_12 => rw [Array.toList_inj.1 (ihs _ _ h)]

/-! Reads in a memory that holds more. -/
def Mem.sub (m m' : Mem) : Prop := ∀ b o, m.get b = some o → m'.get b = some o

theorem getCells_sub {m m' : Mem} (h : m.sub m') {a : Addr} {n : Nat} {l : List Value} (hg : getCells m a n = some l) : getCells m' a n = some l := by
  rw [getCells_eq] at hg ⊢; unfold getCellsO at hg ⊢
  split at hg
  · rename_i c ver fro ro ty' hc
    rw [h _ _ hc]
    exact hg
  · cases hg

theorem aLoad_sub {m m' : Mem} (h : m.sub m') {ag : Bool} {s : Nat} {x v : Value} (hg : aLoad ag s x m = some v) : aLoad ag s x m' = some v := by
  rw [aLoad_eq] at hg ⊢; unfold aLoadO at hg ⊢
  split at hg
  · split at hg
    · split at hg
      · rename_i cs hcs
        rw [getCells_sub h hcs]
        exact hg
      · cases hg
    · split at hg
      · rename_i u hcs
        rw [getCells_sub h hcs]
        exact hg
      · cases hg
  · cases hg

theorem aLookup_sub {m m' : Mem} (h : m.sub m') {p : EqPl} {z : Value} {ok : Bool} {x k v : Value} (hg : aLookup p z ok x k m = some v) : aLookup p z ok x k m' = some v := by
  unfold aLookup at hg ⊢
  generalize (veq k k && (match aEq p k k with | some true => true | _ => false)) = c at hg ⊢
  cases c
  · simp only [Bool.false_eq_true, if_false, reduceCtorEq] at hg
  · simp only [if_true] at hg ⊢
    split at hg
    · exact hg
    · split at hg
      · rename_i b es cl hb
        simp only [h _ _ hb]
        exact hg
      · cases hg
    · cases hg

theorem aSliceArr_sub {m m' : Mem} (h : m.sub m') {len size : Nat} {x v : Value} {lo hi : Option Value} (hg : aSliceArr len size x lo hi m = some v) : aSliceArr len size x lo hi m' = some v := by
  unfold aSliceArr at hg ⊢
  split at hg
  · split at hg
    · cases hg
    · rename_i hcs
      rw [getCells_sub h hcs]
      exact hg
  · cases hg

theorem conv_sub {m m' : Mem} (h : m.sub m') {c : Cv} (hc : c ≠ .bytes) {x v : Value} (hg : conv c x m = some (v, m)) : conv c x m' = some (v, m') := by
  cases hp : c.plain
  · cases c <;> simp only [Cv.plain, reduceCtorEq, ne_eq, not_true_eq_false] at hp hc
    case str =>
      cases x <;> simp only [conv, reduceCtorEq] at hg
      rename_i a n r
      cases a with
      | none => simp only [conv, Option.some.injEq, Prod.mk.injEq] at hg ⊢; exact ⟨hg.1, trivial⟩
      | some a =>
        simp only [conv] at hg ⊢
        split at hg
        · rename_i cs hcs
          rw [getCells_sub h hcs]
          simp only
          split at hg
          · rename_i l hl
            cases hg
            rfl
          · cases hg
        · cases hg
    case toU =>
      cases x <;> simp only [conv, reduceCtorEq] at hg
      rename_i a
      cases a with
      | none => simp only [conv, Option.some.injEq, Prod.mk.injEq] at hg ⊢; exact ⟨hg.1, trivial⟩
      | some a =>
        simp only [conv] at hg ⊢
        split at hg
        · rename_i hb
          rw [h _ _ hb]
          simp only
          split at hg
          · rename_i hc
            rw [if_pos hc]
            simp only [Option.some.injEq, Prod.mk.injEq] at hg ⊢; exact ⟨hg.1, trivial⟩
          · cases hg
        · cases hg
    case fromU =>
      cases x <;> simp only [conv, reduceCtorEq] at hg
      rename_i a
      cases a with
      | none => simp only [conv, Option.some.injEq, Prod.mk.injEq] at hg ⊢; exact ⟨hg.1, trivial⟩
      | some a =>
        simp only [conv] at hg ⊢
        split at hg
        · rename_i hb
          rw [h _ _ hb]
          simp only
          split at hg
          · rename_i hc
            rw [if_pos hc]
            simp only [Option.some.injEq, Prod.mk.injEq] at hg ⊢; exact ⟨hg.1, trivial⟩
          · cases hg
        · cases hg
  · exact (conv_pure hp hg).2 m'

theorem ptrEq_sub {m m' : Mem} (h : m.sub m') {a b : Addr} {r : Bool} (hg : ptrEq m a b = some r) : ptrEq m' a b = some r := by
  unfold ptrEq at hg ⊢
  split at hg
  · rename_i hab
    rw [if_pos hab]
    split at hg
    · rename_i hb
      rw [h _ _ hb]
      exact hg
    · cases hg
  · cases hg

theorem binP_sub {m m' : Mem} (h : m.sub m') {op : BinOp} {c g : Bool} {p : EqPl} {x y v : Value} (hg : binP m op c g p x y = some v) : binP m' op c g p x y = some v := by
  unfold binP at hg ⊢
  split at hg
  · split at hg
    · rename_i r hr
      simp only [ptrEq_sub h hr]
      exact hg
    · cases hg
  · split at hg
    · rename_i r hr
      simp only [ptrEq_sub h hr]
      exact hg
    · cases hg
  · exact hg

theorem pur_sub {x y : Option Value} {m m' : Mem} {v : Value} (h : ∀ u, x = some u → y = some u) (hg : pur x m = some (v, m)) : pur y m' = some (v, m') := by
  obtain ⟨h1, _⟩ := pur_some hg
  rw [h _ h1]; rfl

theorem aLen_sub {m m' : Mem} (h : m.sub m') {x v : Value} (hg : aLen x m = some v) : aLen x m' = some v := by
  unfold aLen at hg ⊢
  split at hg
  · exact hg
  · exact hg
  · exact hg
  · split at hg
    · rename_i b es cl hb
      simp only [h _ _ hb]
      exact hg
    · cases hg
  · cases hg

theorem lenK_sub {m m' : Mem} (h : m.sub m') {k : Nat} {x v : Value} (hg : lenK k x m = some v) : lenK k x m' = some v := by
  unfold lenK at hg ⊢
  split at hg
  · exact hg
  · exact hg
  · exact aLen_sub h hg
  · cases hg

theorem evOp_sub {P : Program} {f : Operand → Value} {m m' : Mem} (hs : m.sub m') {o : Oper} {v : Value} (hk : isRead P o.op = true) (h : evOp P f m o = some (v, m)) : evOp P f m' o = some (v, m') := by
  obtain ⟨dst, op, ty, pos, after, guard⟩ := o
  unfold evOp at h ⊢
  cases op <;> simp only [isRead, Bool.false_eq_true] at hk h ⊢
  case load =>
    split at h
    · exact pur_sub (fun _ => aLoad_sub hs) h
    · cases h
  case binOp b t x y yt =>
    cases hp : ptrInf P t
    · rw [hp] at h; exact pur_sub (fun _ h => h) h
    · rw [hp] at h; exact pur_sub (fun _ => binP_sub hs) h
  case lookup =>
    split at h
    · split at h
      · split at h
        · exact pur_sub (fun _ => aLookup_sub hs) h
        · cases h
      · cases h
    · cases h
  case convert s d x =>
    refine conv_sub hs ?_ h
    intro e; rw [e] at hk; cases hk
  case slice t x lo hi mx =>
    split at h
    · split at h
      · exact pur_sub (fun _ h => h) h
      · cases h
    · split at h
      · split at h
        · exact pur_sub (fun _ h => h) h
        · split at h
          · exact pur_sub (fun _ h => h) h
          · cases h
      · cases h
    · split at h
      · split at h
        · split at h
          · exact pur_sub (fun _ => aSliceArr_sub hs) h
          · cases h
        · cases h
      · cases h
  case call c =>
    obtain ⟨callee, args, tys⟩ := c
    cases callee <;> simp only [Bool.false_eq_true, reduceCtorEq] at hk h ⊢
    rename_i b
    cases b <;> simp only [Bool.false_eq_true] at hk h ⊢
    unfold evBuiltin at h ⊢
    cases hargs : args.toList.map f with
    | nil => rw [hargs] at h; cases h
    | cons x l =>
      rw [hargs] at h
      cases l with
      | cons y l => cases l <;> cases h
      | nil =>
        cases htys : tys.toList with
        | nil => rw [htys] at h; cases h
        | cons t l =>
          rw [htys] at h
          cases l with
          | cons y l => cases h
          | nil =>
            simp only at h ⊢
            split at h
            · exact pur_sub (fun _ => lenK_sub hs) h
            · exact pur_sub (fun _ => lenK_sub hs) h
            · exact pur_sub (fun _ => lenK_sub hs) h
            · simp only [Option.some.injEq, Prod.mk.injEq] at h ⊢; exact ⟨h.1, trivial⟩
            · split at h
              · simp only [Option.some.injEq, Prod.mk.injEq] at h ⊢; exact ⟨h.1, trivial⟩
              · cases h
            · cases h

theorem sub_push {B0 : Nat} {φ : Pmap} {m : Mem} {w : World} (h : Rel B0 φ m w) (ob : AObj) : m.sub (m.push ob) := fun b o hb => by
  rw [Mem.get_push, if_neg]
  · exact hb
  · intro e
    rw [h.fresh b (by omega)] at hb
    cases hb

end Go.Ab

namespace Go.Ab
open Go.RowKit (Below)

/-! A region whose order is drawn: how it is carried out here. -/

def bit (b : List Nat) (i x : Nat) : Bool := (b.getD i 0).testBit x

/-- what goes ahead of the first effect; then each effect, what is looked at once more behind it, and what goes ahead of the next one -/
structure Sch where
  e0 : List Nat
  ph : List (Nat × List Nat × List Nat)

def phOrd : List (Nat × List Nat × List Nat) → List Nat
  | [] => []
  | (e, _, es) :: r => e :: (es ++ phOrd r)

/-- does a guard let the operation by? -/
def gst (ops : Array Oper) (ρ : Env) (o : Oper) : Option Bool :=
  match o.guard with
  | none => some true
  | some (j, want) => match (ops[j]?).bind (·.dst) with
    | none => none
    | some d => gsv (ρ d) want

def runEarly (P : Program) (n : Nat) (ops : Array Oper) : List Nat → Env → Mem → (Env → Mem → Option Rs) → Option Rs
  | [], ρ, m, k => k ρ m
  | i :: is, ρ, m, k => match ops[i]? with
    | none => none
    | some o => match o.guard with
      | none => opK P (evOp P (opd ρ) m o) (opd ρ) m o fun v m => runEarly P n ops is (put n ρ o.dst v) m k
      | some (j, want) => match (ops[j]?).bind (·.dst) with
        | none => none
        | some d => brt (ρ d)
          (match want with
            | true => opK P (evOp P (opd (upd n ρ d (.bool true))) m o) (opd (upd n ρ d (.bool true))) m o fun v m => runEarly P n ops is (put n (upd n ρ d (.bool true)) o.dst v) m k
            | false => runEarly P n ops is (put n (upd n ρ d (.bool true)) o.dst undef) m k)
          (match want with
            | true => runEarly P n ops is (put n (upd n ρ d (.bool false)) o.dst undef) m k
            | false => opK P (evOp P (opd (upd n ρ d (.bool false))) m o) (opd (upd n ρ d (.bool false))) m o fun v m => runEarly P n ops is (put n (upd n ρ d (.bool false)) o.dst v) m k)
          (runEarly P n ops is (put n (upd n ρ d undef) o.dst undef) m k)

theorem brt_gst {ops : Array Oper} {n : Nat} {ρ : Env} {o : Oper} {j d : Nat} {want : Bool} (hg : o.guard = some (j, want)) (hd : (ops[j]?).bind (·.dst) = some d) (A B : Env → Option Rs) :
    brt (ρ d) (match (generalizing := false) want with | true => A (upd n ρ d (.bool true)) | false => B (upd n ρ d (.bool true))) (match (generalizing := false) want with | true => B (upd n ρ d (.bool false)) | false => A (upd n ρ d (.bool false))) (B (upd n ρ d undef)) = brg (gst ops ρ o) (A ρ) (B ρ) := by
  have e : gst ops ρ o = gsv (ρ d) want := by unfold gst; rw [hg]; simp only [hd]
  rw [e]
  unfold brt
  split
  · rename_i h
    rw [upd_same h, h]
    cases want <;> rfl
  · rename_i h
    rw [upd_same h, h]
    cases want <;> rfl
  · rename_i h
    rw [upd_same (v := undef) h, h]
    rfl
  · rename_i h1 h2 h3
    unfold gsv
    split
    · rename_i b h; cases b
      · exact absurd h h2
      · exact absurd h h1
    · rename_i h; exact absurd h h3
    · rfl

theorem runEarly_cons {P : Program} {n : Nat} {ops : Array Oper} {i : Nat} {is : List Nat} {o : Oper} (ho : ops[i]? = some o) (ρ : Env) (m : Mem) (k : Env → Mem → Option Rs) :
    runEarly P n ops (i :: is) ρ m k = brg (gst ops ρ o) (bp (evOp P (opd ρ) m o) fun v m => runEarly P n ops is (put n ρ o.dst v) m k) (runEarly P n ops is (put n ρ o.dst undef) m k) := by
  simp only [runEarly, ho, opK_evOp]
  cases hg : o.guard with
  | none =>
    have e : gst ops ρ o = some true := by unfold gst; rw [hg]
    rw [e]; rfl
  | some jw =>
    obtain ⟨j, want⟩ := jw
    simp only
    cases hd : (ops[j]?).bind (·.dst) with
    | none =>
      have e : gst ops ρ o = none := by unfold gst; rw [hg]; simp only [hd]
      rw [e]; rfl
    | some d =>
      simp only
      exact brt_gst hg hd (fun ρ => bp (evOp P (opd ρ) m o) fun v m => runEarly P n ops is (put n ρ o.dst v) m k) (fun ρ => runEarly P n ops is (put n ρ o.dst undef) m k)

/-- looked at once more: the same value? -/
def again (x : Option (Value × Mem)) (v : Value) : Bool := match x with | some (u, _) => vsame 8 u v | none => false

def chkOk (P : Program) (ops : Array Oper) : List Nat → Env → Mem → Bool
  | [], _, _ => true
  | i :: is, ρ, m => match ops[i]? with
    | none => false
    | some o => brc (gst ops ρ o) ((match o.dst with | some d => again (evOp P (opd ρ) m o) (ρ d) | none => false) && chkOk P ops is ρ m) (chkOk P ops is ρ m)

/-- on, if what is looked at once more is the same -/
def chkB (P : Program) (ops : Array Oper) (cs : List Nat) (ρ : Env) (m : Mem) (x : Option Rs) : Option Rs := match cs with | [] => x | _ => ckB (chkOk P ops cs ρ m) x

def runPh (P : Program) (g : Tab) (n : Nat) (ops : Array Oper) : List (Nat × List Nat × List Nat) → Env → Mem → (Env → Mem → Option Rs) → Option Rs
  | [], ρ, m, k => k ρ m
  | (e, cs, es) :: r, ρ, m, k => match ops[e]? with
    | none => none
    | some o => match o.guard with
      | none => opK P (evAny P g (opd ρ) m o) (opd ρ) m o fun v m => chkB P ops cs (put n ρ o.dst v) m (runEarly P n ops es (put n ρ o.dst v) m fun ρ m => runPh P g n ops r ρ m k)
      | some (j, want) => match (ops[j]?).bind (·.dst) with
        | none => none
        | some d => brt (ρ d)
          (match want with
            | true => opK P (evAny P g (opd (upd n ρ d (.bool true))) m o) (opd (upd n ρ d (.bool true))) m o fun v m => chkB P ops cs (put n (upd n ρ d (.bool true)) o.dst v) m (runEarly P n ops es (put n (upd n ρ d (.bool true)) o.dst v) m fun ρ m => runPh P g n ops r ρ m k)
            | false => runEarly P n ops es (put n (upd n ρ d (.bool true)) o.dst undef) m fun ρ m => runPh P g n ops r ρ m k)
          (match want with
            | true => runEarly P n ops es (put n (upd n ρ d (.bool false)) o.dst undef) m fun ρ m => runPh P g n ops r ρ m k
            | false => opK P (evAny P g (opd (upd n ρ d (.bool false))) m o) (opd (upd n ρ d (.bool false))) m o fun v m => chkB P ops cs (put n (upd n ρ d (.bool false)) o.dst v) m (runEarly P n ops es (put n (upd n ρ d (.bool false)) o.dst v) m fun ρ m => runPh P g n ops r ρ m k))
          (runEarly P n ops es (put n (upd n ρ d undef) o.dst undef) m fun ρ m => runPh P g n ops r ρ m k)

theorem chkB_eq {P : Program} {ops : Array Oper} {cs : List Nat} {ρ : Env} {m : Mem} (x : Option Rs) : chkB P ops cs ρ m x = bif chkOk P ops cs ρ m then x else none := by
  cases cs with
  | nil => rfl
  | cons c cs =>
    show ckB (chkOk P ops (c :: cs) ρ m) x = _
    cases chkOk P ops (c :: cs) ρ m <;> rfl

theorem runPh_cons {P : Program} {g : Tab} {n : Nat} {ops : Array Oper} {e : Nat} {cs es : List Nat} {r : List (Nat × List Nat × List Nat)} {o : Oper} (ho : ops[e]? = some o) (ρ : Env) (m : Mem) (k : Env → Mem → Option Rs) :
    runPh P g n ops ((e, cs, es) :: r) ρ m k = brg (gst ops ρ o) (bp (evAny P g (opd ρ) m o) fun v m => bif chkOk P ops cs (put n ρ o.dst v) m then runEarly P n ops es (put n ρ o.dst v) m fun ρ m => runPh P g n ops r ρ m k else none)
      (runEarly P n ops es (put n ρ o.dst undef) m fun ρ m => runPh P g n ops r ρ m k) := by
  simp only [runPh, ho, opK_evAny, chkB_eq]
  cases hg : o.guard with
  | none =>
    have e : gst ops ρ o = some true := by unfold gst; rw [hg]
    rw [e]; rfl
  | some jw =>
    obtain ⟨j, want⟩ := jw
    simp only
    cases hd : (ops[j]?).bind (·.dst) with
    | none =>
      have e : gst ops ρ o = none := by unfold gst; rw [hg]; simp only [hd]
      rw [e]; rfl
    | some d =>
      simp only
      exact brt_gst hg hd (fun ρ => bp (evAny P g (opd ρ) m o) fun v m => bif chkOk P ops cs (put n ρ o.dst v) m then runEarly P n ops es (put n ρ o.dst v) m fun ρ m => runPh P g n ops r ρ m k else none)
        (fun ρ => runEarly P n ops es (put n ρ o.dst undef) m fun ρ m => runPh P g n ops r ρ m k)

def runDr (P : Program) (g : Tab) (n : Nat) (ops : Array Oper) (s : Sch) (ρ : Env) (m : Mem) (k : Env → Mem → Option Rs) : Option Rs :=
  runEarly P n ops s.e0 ρ m fun ρ m => runPh P g n ops s.ph ρ m k

/-! What is asked of the region's text. -/

/-- facts of the operations alone -/
structure St (n : Nat) (ops : Array Oper) (b : List Nat) : Prop where
  clo : ∀ i x, bit b i x = true → ∃ o, ops[i]? = some o ∧ ∃ e ∈ o.after, Region.binds .any e = true ∧ e.on < i ∧ (e.on = x ∨ bit b e.on x = true)
  edg : ∀ (i : Nat) (o : Oper), ops[i]? = some o → ∀ e ∈ o.after, Region.binds .any e = true → bit b i e.on = true
  dst : ∀ (i j : Nat) (o p : Oper) (d : Nat), ops[i]? = some o → ops[j]? = some p → o.dst = some d → p.dst = some d → i = j
  dlt : ∀ (i : Nat) (o : Oper) (d : Nat), ops[i]? = some o → o.dst = some d → d < n
  look : ∀ (i : Nat) (o : Oper) (t x : Nat) (ox : Oper), ops[i]? = some o → t ∈ Oper.looksAt ops o → ops[x]? = some ox → ox.dst = some t → x ≠ i → bit b i x = true ∨ bit b x i = true
  opd : ∀ (i : Nat) (o : Oper), ops[i]? = some o → o.op.operands.toList.all opdOk = true

def predsIn (ops : Array Oper) (b : List Nat) (done : List Nat) (i : Nat) : Bool := (List.range ops.size).all fun x => !bit b i x || done.contains x
def kindOk (P : Program) (ops : Array Oper) (i : Nat) : Bool := match ops[i]? with | some o => isPure P o.op || isRead P o.op || isAlloc P o.op | none => false
def needChk (P : Program) (ops : Array Oper) (i : Nat) : Bool := match ops[i]? with | some o => isRead P o.op && !isPure P o.op | none => false
def chkAble (ops : Array Oper) (b : List Nat) (i : Nat) : Bool := match ops[i]? with
  | some o => (Oper.looksAt ops o).all fun t => (List.range ops.size).all fun x => match ops[x]? with | some ox => ox.dst != some t || bit b i x | none => true
  | none => false

def okEarly (P : Program) (ops : Array Oper) (b : List Nat) : List Nat → List Nat → Bool
  | _, [] => true
  | done, i :: is => Nat.blt i ops.size && !done.contains i && predsIn ops b done i && kindOk P ops i && okEarly P ops b (i :: done) is

def okPh (P : Program) (ops : Array Oper) (b : List Nat) : List Nat → List (Nat × List Nat × List Nat) → Bool
  | done, [] => (List.range ops.size).all done.contains
  | done, (e, cs, es) :: r => Nat.blt e ops.size && !done.contains e && predsIn ops b done e && ((es ++ phOrd r).all fun i => bit b i e) &&
      (done.all fun i => !needChk P ops i || bit b e i || cs.contains i) && (cs.all fun i => chkAble ops b i) && okEarly P ops b (e :: done) es && okPh P ops b (es.reverse ++ e :: done) r

/-- all at once -/
def okSch (P : Program) (ops : Array Oper) (b : List Nat) (s : Sch) : Bool := okEarly P ops b [] s.e0 && okPh P ops b s.e0.reverse s.ph

/-! What holds on the way. -/
variable {P : Program} {W0 : World} {g : Tab} {n : Nat} {ops : Array Oper} {b : List Nat}

/-- carried out here, not by the machine yet -/
def Pend (P : Program) (ops : Array Oper) (b : List Nat) (ρ0 : Env) (m0 : Mem) (al : List (Nat × Nat)) (φ : Pmap) (ρ : Env) (m : Mem) (i : Nat) : Prop :=
  ∃ o G, ops[i]? = some o ∧
    (∀ t ∈ Oper.looksAt ops o, ∀ x ox, ops[x]? = some ox → ox.dst = some t → bit b i x = true → G t = ρ t) ∧
    (∀ t ∈ Oper.looksAt ops o, (∀ x ox, ops[x]? = some ox → bit b i x = true → ox.dst ≠ some t) → G t = ρ0 t) ∧
    ∃ v, (∀ d, o.dst = some d → ρ d = v) ∧
      ((gst ops G o = some false ∧ v = undef) ∨
       (gst ops G o = some true ∧
          ((isPure P o.op = true ∧ evOp P (opd G) m o = some (v, m)) ∨ (isRead P o.op = true ∧ isPure P o.op = false ∧ evOp P (opd G) m o = some (v, m)) ∨
            (∃ ob nv bk, aOf P (opd G) o = some (ob, nv) ∧ v = nv.val bk ∧ φ bk = none ∧ m.get bk = some ob ∧ (i, bk) ∈ al ∧ m0.next ≤ bk))))

def lst (listed : Array Bool) (i : Nat) : Prop := listed.getD i false = true

structure DInv (P : Program) (W0 : World) (n : Nat) (ops : Array Oper) (b : List Nat) (ρ0 : Env) (φ0 : Pmap) (m0 : Mem) (w0 : World) (done : List Nat) (al : List (Nat × Nat)) (listed : Array Bool) (φ : Pmap) (ρ : Env) (m : Mem) (a : Act) (w : World) : Prop where
  rel0 : Rel W0.heap.size φ0 m0 w0
  below0 : Below W0.heap.size W0 w0
  rel : Rel W0.heap.size φ m w
  below : Below W0.heap.size W0 w
  size : a.tmps.size = n
  defers : a.defers = []
  low : m.low ≤ m.next
  stp : Stp φ0 m0 w0 φ m w
  lsz : listed.size = ops.size
  ld : ∀ i, lst listed i → i ∈ done
  ldown : ∀ i x, lst listed i → bit b i x = true → lst listed x
  ddown : ∀ i x, i ∈ done → bit b i x = true → x ∈ done
  env1 : ∀ x o t, lst listed x → ops[x]? = some o → o.dst = some t → VRel φ (ρ t) (a.tmps.getD t undef)
  env0 : ∀ t, (∀ x o, lst listed x → ops[x]? = some o → o.dst ≠ some t) → VRel φ (ρ0 t) (a.tmps.getD t undef)
  old : ∀ t, (∀ x o, x ∈ done → ops[x]? = some o → o.dst ≠ some t) → ρ t = ρ0 t
  pend : ∀ i, i ∈ done → ¬ lst listed i → Pend P ops b ρ0 m0 al φ ρ m i
  alin : ∀ p q, p ∈ al → q ∈ al → p.2 = q.2 → p = q
  allt : ∀ p, p ∈ al → p.2 < m.next

theorem put_ne {n : Nat} {ρ : Env} {dst : Option Nat} {v : Value} {t : Nat} (h : dst ≠ some t) : put n ρ dst v t = ρ t := by
  cases dst with
  | none => rfl
  | some d =>
    simp only [put, upd]
    cases hb : Nat.beq t d && Nat.blt d n
    · rfl
    · simp only [Bool.and_eq_true] at hb
      exact absurd (by rw [Nat.eq_of_beq_eq_true hb.1]) h

theorem put_self {n : Nat} {ρ : Env} {d : Nat} {v : Value} (h : d < n) : put n ρ (some d) v d = v := by
  simp only [put, upd]
  have : (Nat.beq d d && Nat.blt d n) = true := by
    simp only [Bool.and_eq_true]
    exact ⟨Nat.beq_refl d, by simp [Nat.blt, Nat.ble_eq]; omega⟩
  rw [this]; rfl

theorem predsIn_spec {done : List Nat} {i : Nat} (hS : St n ops b) (hi : i < ops.size) (h : predsIn ops b done i = true) : ∀ x, bit b i x = true → x ∈ done := by
  intro x hx
  have hxs : x < i := by
    have key : ∀ k i, i ≤ k → bit b i x = true → x < i := by
      intro k
      induction k with
      | zero =>
        intro i hi hx
        obtain ⟨o, _, e, _, _, h3, _⟩ := hS.clo i x hx
        omega
      | succ k ih =>
        intro i hi hx
        obtain ⟨o, _, e, _, _, h3, h4⟩ := hS.clo i x hx
        rcases h4 with h4 | h4
        · omega
        · have := ih e.on (by omega) h4
          omega
    exact key i i (Nat.le_refl _) hx
  unfold predsIn at h
  rw [List.all_eq_true] at h
  have := h x (List.mem_range.2 (by omega))
  rw [hx] at this
  simpa using this

/-- the relation of what an operation looks at, when all ahead of it has been carried out -/
theorem Pend.looks {ρ0 : Env} {φ0 : Pmap} {m0 : Mem} {w0 : World} {done : List Nat} {al : List (Nat × Nat)} {listed : Array Bool} {φ : Pmap} {ρ : Env} {m : Mem} {a : Act} {w : World} (hS : St n ops b) (h : DInv P W0 n ops b ρ0 φ0 m0 w0 done al listed φ ρ m a w)
    {i : Nat} {o : Oper} {G : Env} (ho : ops[i]? = some o) (hi : ¬ lst listed i) (hpre : ∀ x, bit b i x = true → lst listed x)
    (h1 : ∀ t ∈ Oper.looksAt ops o, ∀ x ox, ops[x]? = some ox → ox.dst = some t → bit b i x = true → G t = ρ t)
    (h0 : ∀ t ∈ Oper.looksAt ops o, (∀ x ox, ops[x]? = some ox → bit b i x = true → ox.dst ≠ some t) → G t = ρ0 t) : ∀ t ∈ Oper.looksAt ops o, VRel φ (G t) (a.tmps.getD t undef) := by
  intro t ht
  by_cases hx : ∃ x ox, ops[x]? = some ox ∧ ox.dst = some t ∧ bit b i x = true
  · obtain ⟨x, ox, q1, q2, q3⟩ := hx
    rw [h1 t ht x ox q1 q2 q3]
    exact h.env1 x ox t (hpre x q3) q1 q2
  · have hno : ∀ x ox, ops[x]? = some ox → bit b i x = true → ox.dst ≠ some t := fun x ox q1 q2 q3 => hx ⟨x, ox, q1, q3, q2⟩
    rw [h0 t ht hno]
    refine h.env0 t fun x ox q1 q2 q3 => ?_
    have hne : x ≠ i := fun e => hi (e ▸ q1)
    rcases hS.look i o t x ox ho ht q2 q3 hne with q | q
    · exact hno x ox q2 q q3
    · exact hi (h.ldown x i q1 q)

theorem opd_rel_looks {φ : Pmap} {G : Env} {a : Act} {o : Oper} (h : ∀ t ∈ Oper.looksAt ops o, VRel φ (G t) (a.tmps.getD t undef)) (hok : o.op.operands.toList.all opdOk = true) : ∀ x ∈ o.op.operands.toList, VRel φ (opd G x) (a.eval x) := by
  intro x hx
  have := List.all_eq_true.1 hok x hx
  cases x with
  | tmp t => exact h t (by unfold Oper.looksAt; exact List.mem_append_left _ (List.mem_filterMap.2 ⟨.tmp t, hx, rfl⟩))
  | const v => exact plainV_rel this
  | global g => cases this
  | func f => exact .func _ _ _ _ _ .nil .nil

theorem gst_wanted {φ : Pmap} {G : Env} {a : Act} {o : Oper} {c : Bool} (h : ∀ t ∈ Oper.looksAt ops o, VRel φ (G t) (a.tmps.getD t undef)) (hg : gst ops G o = some c) : Region.wanted o (yielded ops a.tmps) = c := by
  unfold gst at hg
  unfold Region.wanted
  cases hgd : o.guard with
  | none => rw [hgd] at hg; cases hg; rfl
  | some jw =>
    obtain ⟨j, want⟩ := jw
    rw [hgd] at hg
    simp only at hg ⊢
    cases hd : (ops[j]?).bind (·.dst) with
    | none => rw [hd] at hg; cases hg
    | some d =>
      rw [hd] at hg
      simp only at hg
      have hr := h d (by unfold Oper.looksAt; rw [hgd]; simp only [hd]; exact List.mem_append_right _ (by simp))
      unfold gsv at hg
      split at hg
      · rename_i bb hb
        cases hg
        rw [hb] at hr
        generalize hc : a.tmps.getD d undef = c at hr
        cases hr
        have : a.tmps[d]? = some (.bool bb) := by
          rw [Array.getD_eq_getD_getElem?] at hc
          cases hx : a.tmps[d]? with
          | none => rw [hx] at hc; cases hc
          | some y => rw [hx] at hc; simp at hc; rw [hc]
        have hy : yielded ops a.tmps j = some bb := by simp [yielded, hd, this]
        rw [hy]
        cases bb <;> cases want <;> rfl
      · rename_i hb
        cases hg
        rw [hb] at hr
        generalize hc : a.tmps.getD d undef = c at hr
        have hy : yielded ops a.tmps j = none := by
          cases hr with
          | tuple _ a' hl =>
            cases a' with
            | mk l =>
              simp only at hl
              cases hl
              rw [Array.getD_eq_getD_getElem?] at hc
              cases hx : a.tmps[d]? with
              | none => simp [yielded, hd, hx]
              | some y => rw [hx] at hc; simp at hc; simp [yielded, hd, hx, hc]
        rw [hy]
        rfl
      · cases hg

end Go.Ab

namespace Go.Ab
open Go.RowKit (Below)
variable {P : Program} {W0 : World} {g : Tab} {n : Nat} {ops : Array Oper} {b : List Nat}

theorem lst_set {listed : Array Bool} {i x : Nat} (hi : i < listed.size) : lst (listed.setIfInBounds i true) x ↔ x = i ∨ lst listed x := by
  unfold lst
  by_cases hx : x = i
  · subst hx
    simp [hi]
  · have : (listed.setIfInBounds i true).getD x false = listed.getD x false := getD_set_ne false (Ne.symm hx)
    rw [this]
    simp [hx]

theorem lt_of_some {i : Nat} {o : Oper} (h : ops[i]? = some o) : i < ops.size := (Array.getElem?_eq_some_iff.1 h).1

/-- one more operation is carried out here, ahead of the machine -/
theorem early_step {ρ0 : Env} {φ0 : Pmap} {m0 : Mem} {w0 : World} {done : List Nat} {al : List (Nat × Nat)} {listed : Array Bool} {φ : Pmap} {ρ : Env} {m : Mem} {a : Act} {w : World} (hS : St n ops b)
    (h : DInv P W0 n ops b ρ0 φ0 m0 w0 done al listed φ ρ m a w) {i : Nat} {is : List Nat} {k : Env → Mem → Option Rs} {r : Rs} (hn : i ∉ done) (hpre : ∀ x, bit b i x = true → x ∈ done) (hk : kindOk P ops i = true)
    (hr : runEarly P n ops (i :: is) ρ m k = some r) : ∃ al' ρ' m', DInv P W0 n ops b ρ0 φ0 m0 w0 (i :: done) al' listed φ ρ' m' a w ∧ runEarly P n ops is ρ' m' k = some r := by
  obtain ⟨o, ho⟩ : ∃ o, ops[i]? = some o := by
    unfold kindOk at hk
    cases ho : ops[i]? with
    | none => rw [ho] at hk; cases hk
    | some o => exact ⟨o, rfl⟩
  rw [runEarly_cons ho] at hr
  -- what stays the same whatever has come
  have main : ∀ (v : Value) (m' : Mem) (al' : List (Nat × Nat)), Rel W0.heap.size φ m' w → m'.low ≤ m'.next → Stp φ0 m0 w0 φ m' w → m.sub m' → m.next ≤ m'.next → (∀ p, p ∈ al → p ∈ al') → (∀ p q, p ∈ al' → q ∈ al' → p.2 = q.2 → p = q) → (∀ p, p ∈ al' → p.2 < m'.next) →
      ((gst ops ρ o = some false ∧ v = undef) ∨ (gst ops ρ o = some true ∧
          ((isPure P o.op = true ∧ evOp P (opd ρ) m' o = some (v, m')) ∨ (isRead P o.op = true ∧ isPure P o.op = false ∧ evOp P (opd ρ) m' o = some (v, m')) ∨
            (∃ ob nv bk, aOf P (opd ρ) o = some (ob, nv) ∧ v = nv.val bk ∧ φ bk = none ∧ m'.get bk = some ob ∧ (i, bk) ∈ al' ∧ m0.next ≤ bk)))) →
      DInv P W0 n ops b ρ0 φ0 m0 w0 (i :: done) al' listed φ (put n ρ o.dst v) m' a w := by
    intro v m' al' q1 q2 q3 q4 q5 q6 q7 q8 q9
    -- slots that were written ahead keep their values
    have keep : ∀ (x : Nat) (ox : Oper) (t : Nat), x ∈ done → ops[x]? = some ox → ox.dst = some t → put n ρ o.dst v t = ρ t := by
      intro x ox t hx hox ht
      refine put_ne fun e => hn ?_
      rw [hS.dst i x o ox t ho hox e ht]
      exact hx
    refine ⟨h.rel0, h.below0, q1, h.below, h.size, h.defers, q2, q3, h.lsz, fun j hj => List.mem_cons_of_mem _ (h.ld j hj), h.ldown, ?_, ?_, h.env0, ?_, ?_, q7, q8⟩
    · intro j x hj hx
      rcases List.mem_cons.1 hj with rfl | hj
      · exact List.mem_cons_of_mem _ (hpre x hx)
      · exact List.mem_cons_of_mem _ (h.ddown j x hj hx)
    · intro x ox t hx hox ht
      rw [keep x ox t (h.ld x hx) hox ht]
      exact h.env1 x ox t hx hox ht
    · intro t ht
      rw [put_ne (ht i o List.mem_cons_self ho)]
      exact h.old t fun x ox hx hox => ht x ox (List.mem_cons_of_mem _ hx) hox
    · intro j hj hjl
      rcases List.mem_cons.1 hj with rfl | hj
      · refine ⟨o, ρ, ho, ?_, ?_, v, ?_, q9⟩
        · intro t _ x ox hox ht hb
          exact (keep x ox t (hpre x hb) hox ht).symm
        · intro t ht hno
          refine h.old t fun x ox hx hox hd => ?_
          have hne : x ≠ j := fun e => hn (e ▸ hx)
          rcases hS.look j o t x ox ho ht hox hd hne with q | q
          · exact hno x ox hox q hd
          · exact hn (h.ddown x j hx q)
        · intro d hd
          rw [hd]
          exact put_self (hS.dlt j o d ho hd)
      · obtain ⟨oj, G, p1, p2, p3, u, p4, p5⟩ := h.pend j hj hjl
        refine ⟨oj, G, p1, ?_, p3, u, ?_, ?_⟩
        · intro t ht x ox hox hd hb
          rw [keep x ox t (h.ddown j x hj hb) hox hd]
          exact p2 t ht x ox hox hd hb
        · intro d hd
          rw [keep j oj d hj p1 hd]
          exact p4 d hd
        · rcases p5 with p5 | ⟨p5, p6 | p6 | p6⟩
          · exact .inl p5
          · exact .inr ⟨p5, .inl ⟨p6.1, (evOp_pure p6.1 p6.2).2 m'⟩⟩
          · exact .inr ⟨p5, .inr (.inl ⟨p6.1, p6.2.1, evOp_sub q4 p6.1 p6.2.2⟩)⟩
          · obtain ⟨ob, nv, bk, s1, s2, s3, s4, s5, s6⟩ := p6
            exact .inr ⟨p5, .inr (.inr ⟨ob, nv, bk, s1, s2, s3, q4 _ _ s4, q6 _ s5, s6⟩)⟩
  unfold brg at hr
  split at hr
  · cases hr
  · rename_i hg
    obtain ⟨v, m', e1, e2⟩ := bp_some hr
    unfold kindOk at hk
    rw [ho] at hk
    simp only [Bool.or_eq_true] at hk
    by_cases hp : isPure P o.op = true
    · obtain ⟨rfl, _⟩ := evOp_pure hp e1
      exact ⟨al, _, _, main v m' al h.rel h.low h.stp (fun _ _ q => q) (Nat.le_refl _) (fun _ q => q) h.alin h.allt (.inr ⟨hg, .inl ⟨hp, e1⟩⟩), e2⟩
    · by_cases hrd : isRead P o.op = true
      · have := evOp_read hrd e1
        subst this
        exact ⟨al, _, _, main v m' al h.rel h.low h.stp (fun _ _ q => q) (Nat.le_refl _) (fun _ q => q) h.alin h.allt (.inr ⟨hg, .inr (.inl ⟨hrd, by simpa using hp, e1⟩)⟩), e2⟩
      · have hal : isAlloc P o.op = true := by
          rcases hk with (hk | hk) | hk
          · exact absurd hk hp
          · exact absurd hk hrd
          · exact hk
        obtain ⟨ob, nv, s1, rfl, rfl⟩ := aOf_of hal e1
        obtain ⟨t1, t2, t3⟩ := rel_ahead h.rel ob
        have hmn := h.stp.next
        refine ⟨(i, m.next) :: al, _, _, main _ _ ((i, m.next) :: al) t1 (by have := h.low; simp; omega) (t3 _ _ _ h.stp) (sub_push h.rel ob) (by simp) (fun _ q => List.mem_cons_of_mem _ q) ?_ ?_ (.inr ⟨hg, .inr (.inr ⟨ob, nv, m.next, s1, rfl, t2, by rw [Mem.get_push, if_pos rfl], List.mem_cons_self, hmn⟩)⟩), e2⟩
        · intro p q hp hq e
          rcases List.mem_cons.1 hp with rfl | hp <;> rcases List.mem_cons.1 hq with rfl | hq
          · rfl
          · have := h.allt q hq; simp only at e; omega
          · have := h.allt p hp; simp only at e; omega
          · exact h.alin p q hp hq e
        · intro p hp
          rcases List.mem_cons.1 hp with rfl | hp
          · simp
          · have := h.allt p hp; simp; omega
  · rename_i hg
    exact ⟨al, _, _, main undef m al h.rel h.low h.stp (fun _ _ q => q) (Nat.le_refl _) (fun _ q => q) h.alin h.allt (.inl ⟨hg, rfl⟩), hr⟩

theorem early_steps {ρ0 : Env} {φ0 : Pmap} {m0 : Mem} {w0 : World} {listed : Array Bool} {φ : Pmap} {a : Act} {w : World} (hS : St n ops b) {k : Env → Mem → Option Rs} {r : Rs} :
    ∀ (is : List Nat) (done : List Nat) (al : List (Nat × Nat)) (ρ : Env) (m : Mem), DInv P W0 n ops b ρ0 φ0 m0 w0 done al listed φ ρ m a w → okEarly P ops b done is = true → runEarly P n ops is ρ m k = some r →
      ∃ al' ρ' m', DInv P W0 n ops b ρ0 φ0 m0 w0 (is.reverse ++ done) al' listed φ ρ' m' a w ∧ k ρ' m' = some r
  | [], done, al, ρ, m, h, _, hr => ⟨al, ρ, m, h, hr⟩
  | i :: is, done, al, ρ, m, h, hok, hr => by
    simp only [okEarly, Bool.and_eq_true] at hok
    obtain ⟨⟨⟨⟨k1, k2⟩, k3⟩, k4⟩, k5⟩ := hok
    have hi : i < ops.size := by simp [Nat.blt, Nat.ble_eq] at k1; omega
    obtain ⟨al1, ρ1, m1, h1, hr1⟩ := early_step hS h (by simpa using k2) (predsIn_spec hS hi k3) k4 hr
    obtain ⟨al2, ρ2, m2, h2, hr2⟩ := early_steps hS is (i :: done) al1 ρ1 m1 h1 k5 hr1
    exact ⟨al2, ρ2, m2, by simpa using h2, hr2⟩

end Go.Ab
