/-
  What the function check of package lex answers, at every text. No conditions.
-/
import Derived.Test.YtchdjkidnjfcjaaGreatDoorT
import Derived.Test.YtchdjkidnjfcjaaGreatDoorAb5
import Derived.IntWalk
namespace Go.Ab
open Go

theorem bp_pur {α : Type} {v : Value} {m : Mem} {k : Value → Mem → Option α} : bp (pur (some v) m) k = k v m := rfl
theorem bp_unt {α : Type} {m m' : Mem} {k : Value → Mem → Option α} : bp (unt (some m')) k = k undef m' := rfl
theorem bp_some' {α : Type} {v : Value} {m : Mem} {k : Value → Mem → Option α} : bp (some (v, m)) k = k v m := rfl
theorem brb_true {α : Type} {a b : Option α} : brb (.bool true) a b = a := rfl
theorem brb_false {α : Type} {a b : Option α} : brb (.bool false) a b = b := rfl
theorem ob_some {α β : Type} {x : α} {k : α → Option β} : ob (some x) k = k x := rfl

/-- reading and writing cells of a block that is known -/
theorem getCells_at {m : Mem} {b o n ver fro : Nat} {c : List Value} {ro : Bool} {ty : Option Nat} (h : m.get b = some (.cells c ver fro ro ty)) (hn : o + n ≤ c.length) : getCells m ⟨b, o, some ver⟩ n = some ((c.drop o).take n) := by
  simp [getCells_eq, getCellsO, h, hn]
theorem setCells_at {m : Mem} {b o ver fro : Nat} {c vs : List Value} {ty : Option Nat} (h : m.get b = some (.cells c ver fro false ty)) (hf : fro ≤ o) (hn : o + vs.length ≤ c.length) (h1 : vs.all one = true) :
    setCells m ⟨b, o, some ver⟩ vs = some (m.put b (.cells (c.take o ++ vs ++ c.drop (o + vs.length)) ver fro false ty)) := by
  simp only [setCells_eq, setCellsO, h]
  simp [hf, hn, h1]

end Go.Ab
namespace Go.Ab.Sh
open Go Go.Ab

def chk : List UInt8 → Nat → Nat → Nat × Nat × Nat
  | [], _, _ => (0, 0, 0)
  | c :: r, l, k => if 4096 < l then (l, k, 3) else if c.toNat = 10 then chk r (l + 1) 1 else if c.toNat < 32 ∨ 126 < c.toNat then (l, k, 70) else chk r l (k + 1)

def chkV (x : Nat × Nat × Nat) : Value := .tuple ⟨[.agg #[.int .i64 x.1, .int .i64 x.2.1], .int .i64 x.2.2]⟩

def LoopAt (m : Mem) (b c : Nat) (l k : Nat) : Prop := m.get b = some (.cells [.int .i64 l, .int .i64 k] 0 0 false (some (2 * Q9 + 1))) ∧ (∃ x y, m.get c = some (.cells [x, y] 0 0 false (some (2 * Q9 + 1)))) ∧ b ≠ c

theorem lex_check_loop (G : Gt) (s : ByteArray) (b c N : Nat) (hN : s.data.toList.length = N) (hbig : N ≤ 65536) :
    ∀ (r pre : List UInt8) (i l k : Nat) (m : Mem), s.data.toList = pre ++ r → r.length < i → l ≤ pre.length + 1 → k ≤ pre.length + 1 → LoopAt m b c l k →
      ∃ m1, Q1p G i (.int .i64 pre.length) (.int .i64 N) (.pointer (some ⟨b, 0, some 0⟩)) (.pointer (some ⟨c, 0, some 0⟩)) (.string s) m = some (chkV (chk r l k), m1) ∧ min (min m.low b) c ≤ m1.low := by
  intro r
  induction r with
  | nil =>
    intro pre i l k m hs hi hl hk hL
    obtain ⟨h1, ⟨x, y, h2⟩, h3⟩ := hL
    have hpre : pre.length = N := by rw [← hN, hs]; simp
    cases i with
    | zero => simp at hi
    | succ i =>
      refine ⟨m.put c (.cells [.int .i64 0, .int .i64 0] 0 0 false (some (2 * Q9 + 1))), ?_, by simp; omega⟩
      unfold Q1p
      simp only [bin_eq, binO, hpre, ne_eq, not_true_eq_false, if_false, Int.lt_irrefl, decide_false, bp_pur, Q68, brb_false, Qzj, aBuild_eq, aBuildO, Q5, fill]
      simp [aStore_eq, aStoreO, Value.cells, setCells_eq, setCellsO, h2, one, bp_unt, aLoad_eq, aLoadO, getCells_eq, getCellsO, Mem.get_put, ob_eq, resVal, chkV, chk]
  | cons a r ih =>
    intro pre i l k m hs hi hl hk hL
    obtain ⟨h1, ⟨x, y, h2⟩, h3⟩ := hL
    have hlen : pre.length + (r.length + 1) = N := by rw [← hN, hs]; simp
    have hlt : (pre.length : Int) < N := by omega
    have hix : s.data.toList[pre.length]? = some a := by rw [hs]; simp
    have w1 : IntKind.i64.wrap ((pre.length : Int) + 1) = ((pre ++ [a]).length : Int) := by rw [IntWalk.i64_in _ (by omega)]; simp
    have w2 : IntKind.i64.wrap ((l : Int) + 1) = ((l + 1 : Nat) : Int) := by rw [IntWalk.i64_in _ (by omega)]; simp
    have w3 : IntKind.i64.wrap ((k : Int) + 1) = ((k + 1 : Nat) : Int) := by rw [IntWalk.i64_in _ (by omega)]; simp
    cases i with
    | zero => simp at hi
    | succ i =>
      simp at hi
      unfold Q1p
      by_cases hl4 : 4096 < l
      · refine ⟨m.put c (.cells [.int .i64 l, .int .i64 k] 0 0 false (some (2 * Q9 + 1))), ?_, by simp; omega⟩
        have : (4096 : Int) < l := by omega
        simp [-Array.all_toList, -List.all_eq_true, List.all_cons, List.all_nil, bin_eq, binO, hlt, bp_pur, Q68, brb_true, Q8b, Q8c, Q6v, aFieldAddr_eq, aFieldAddrO, aLoad_eq, aLoadO, getCells_eq, getCellsO, h1, this, aStore_eq, aStoreO, Value.cells, setCells_eq, setCellsO, h2, one, bp_unt, Mem.get_put, ob_eq, resVal, chkV, chk, hl4]
      · have h4 : ¬ (4096 : Int) < l := by omega
        by_cases h10 : a.toNat = 10
        · have e10 : (a.toNat : Int) = 10 := by omega
          obtain ⟨m1, q1, q2⟩ := ih (pre ++ [a]) i (l + 1) 1 (m.put b (.cells [.int .i64 ((l + 1 : Nat) : Int), .int .i64 1] 0 0 false (some (2 * Q9 + 1)))) (by rw [hs]; simp) hi (by simp; omega) (by simp) ⟨by rw [Mem.get_put, if_pos rfl]; rfl, ⟨x, y, by rw [Mem.get_put, if_neg h3]; exact h2⟩, h3⟩
          refine ⟨m1, ?_, by simp at q2; omega⟩
          rw [show chk (a :: r) l k = chk r (l + 1) 1 by simp [chk, hl4, h10]]
          rw [← q1]
          simp [-Array.all_toList, -List.all_eq_true, List.all_cons, List.all_nil, bin_eq, binO, hlt, bp_pur, Q68, brb_true, brb_false, Q8b, Q8c, Q6v, Qa6, Q6w, Q8d, aFieldAddr_eq, aFieldAddrO, aLoad_eq, aLoadO, getCells_eq, getCellsO, h1, h4, aStore_eq, aStoreO, Value.cells, setCells_eq, setCellsO, h2, one, bp_unt, Mem.get_put, ob_eq, resVal, chkV, aIndexStr_eq, aIndexStrO, hix, aBuild_eq, aBuildO, fill, Q5, fillAt, w1, w2, w3, e10]
        · have e10 : ((a.toNat : Int) == 10) = false := by simp; omega
          by_cases h32 : a.toNat < 32
          · have e32 : (a.toNat : Int) < 32 := by omega
            refine ⟨m.put c (.cells [.int .i64 l, .int .i64 k] 0 0 false (some (2 * Q9 + 1))), ?_, by simp; omega⟩
            rw [show chk (a :: r) l k = (l, k, 70) by simp [chk, hl4, h10, h32]]
            simp [-Array.all_toList, -List.all_eq_true, List.all_cons, List.all_nil, bin_eq, binO, hlt, bp_pur, Q68, brb_true, brb_false, Q8b, Q8c, Q6v, Qa6, Q6w, Q8d, aFieldAddr_eq, aFieldAddrO, aLoad_eq, aLoadO, getCells_eq, getCellsO, h1, h4, aStore_eq, aStoreO, Value.cells, setCells_eq, setCellsO, h2, one, bp_unt, Mem.get_put, ob_eq, resVal, chkV, aIndexStr_eq, aIndexStrO, hix, aBuild_eq, aBuildO, fill, Q5, fillAt, w1, w2, w3, e10, e32]
          · have e32 : ¬ (a.toNat : Int) < 32 := by omega
            by_cases h126 : 126 < a.toNat
            · have e126 : (126 : Int) < a.toNat := by omega
              refine ⟨m.put c (.cells [.int .i64 l, .int .i64 k] 0 0 false (some (2 * Q9 + 1))), ?_, by simp; omega⟩
              rw [show chk (a :: r) l k = (l, k, 70) by simp [chk, hl4, h10, h126]]
              simp [-Array.all_toList, -List.all_eq_true, List.all_cons, List.all_nil, bin_eq, binO, hlt, bp_pur, Q68, brb_true, brb_false, Q8b, Q8c, Q6v, Qa6, Q6w, Q8d, aFieldAddr_eq, aFieldAddrO, aLoad_eq, aLoadO, getCells_eq, getCellsO, h1, h4, aStore_eq, aStoreO, Value.cells, setCells_eq, setCellsO, h2, one, bp_unt, Mem.get_put, ob_eq, resVal, chkV, aIndexStr_eq, aIndexStrO, hix, aBuild_eq, aBuildO, fill, Q5, fillAt, w1, w2, w3, e10, e32, e126]
            · have e126 : ¬ (126 : Int) < a.toNat := by omega
              obtain ⟨m1, q1, q2⟩ := ih (pre ++ [a]) i l (k + 1) (m.put b (.cells [.int .i64 l, .int .i64 ((k + 1 : Nat) : Int)] 0 0 false (some (2 * Q9 + 1)))) (by rw [hs]; simp) hi (by simp; omega) (by simp; omega) ⟨by rw [Mem.get_put, if_pos rfl], ⟨x, y, by rw [Mem.get_put, if_neg h3]; exact h2⟩, h3⟩
              refine ⟨m1, ?_, by simp at q2; omega⟩
              rw [show chk (a :: r) l k = chk r l (k + 1) by simp [chk, hl4, h10, h32, h126]]
              rw [← q1]
              simp [-Array.all_toList, -List.all_eq_true, List.all_cons, List.all_nil, bin_eq, binO, hlt, bp_pur, Q68, brb_true, brb_false, Q8b, Q8c, Q6v, Qa6, Q6w, Q8d, aFieldAddr_eq, aFieldAddrO, aLoad_eq, aLoadO, getCells_eq, getCellsO, h1, h4, aStore_eq, aStoreO, Value.cells, setCells_eq, setCellsO, h2, one, bp_unt, Mem.get_put, ob_eq, resVal, chkV, aIndexStr_eq, aIndexStrO, hix, aBuild_eq, aBuildO, fill, Q5, fillAt, w1, w2, w3, e10, e32, e126]

theorem lex_check_law (G : Gt) (hR : 65537 < G.rds) (s : ByteArray) (m : Mem) :
    ∃ m1, Qot G (.string s) (withLow m m.next) = some (chkV (if 65536 < s.data.toList.length then (0, 0, 3) else chk s.data.toList 1 1), m1) ∧ m.next ≤ m1.low := by
  have hsz : s.size = s.data.toList.length := by rw [Array.length_toList]; rfl
  unfold Qot Qzk
  by_cases h : 65536 < s.data.toList.length
  · have h' : (65536 : Int) < s.size := by omega
    rw [if_pos h]
    refine ⟨((withLow m m.next).push (.cells Q5 0 0 false (some (2 * Q9 + 1)))).put m.next (.cells [.int .i64 0, .int .i64 0] 0 0 false (some (2 * Q9 + 1))), ?_, by simp [withLow]⟩
    simp [-Array.all_toList, -List.all_eq_true, List.all_cons, List.all_nil, bin_eq, binO, bp_pur, bp_some', aNew, lenK_eq, lenKO, h', brb_true, aBuild_eq, aBuildO, Q5, fill, aStore_eq, aStoreO, Value.cells, setCells_eq, setCellsO, Mem.get_push, withLow, one, bp_unt, aLoad_eq, aLoadO, getCells_eq, getCellsO, Mem.get_put, ob_eq, resVal, chkV]
  · have h' : ¬ (65536 : Int) < s.size := by omega
    rw [if_neg h]
    have hl := lex_check_loop G s (m.next + 1) m.next s.size hsz.symm (by omega) s.data.toList [] G.rds 1 1 ((((withLow m m.next).push (.cells Q5 0 0 false (some (2 * Q9 + 1)))).push (.cells Q5 0 0 false (some (2 * Q9 + 1)))).put (m.next + 1) (.cells [.int .i64 1, .int .i64 1] 0 0 false (some (2 * Q9 + 1)))) rfl (by omega) (by simp) (by simp)
      ⟨by rw [Mem.get_put, if_pos rfl]; rfl, ⟨_, _, by rw [Mem.get_put, if_neg (by omega), Mem.get_push, if_neg (by simp [withLow]), Mem.get_push, if_pos (by simp [withLow])]; rfl⟩, by omega⟩
    obtain ⟨m1, q1, q2⟩ := hl
    refine ⟨m1, ?_, by simp [withLow] at q2; omega⟩
    rw [← q1]
    simp [-Array.all_toList, -List.all_eq_true, List.all_cons, List.all_nil, bin_eq, binO, bp_pur, bp_some', aNew, lenK_eq, lenKO, h', brb_false, Qzl, Qzm, Qzn, aBuild_eq, aBuildO, Q5, fill, fillAt, aStore_eq, aStoreO, Value.cells, setCells_eq, setCellsO, Mem.get_push, withLow, one, bp_unt]

/-- lex.check, as an answer -/
noncomputable def ovCheck : Over := fun f args m => match args with
  | [.string s] => (match Nat.beq f Qou with | true => some (chkV (if 65536 < s.data.toList.length then (0, 0, 3) else chk s.data.toList 1 1), m) | false => none)
  | _ => none

theorem ovCheck_ok (hm : Go.Proofs.Tryz.prog.follows .mixedOrders = true) (W0 : World) : OvSound Go.Proofs.Tryz.prog W0 ovCheck := by
  refine ov_of_tab (shT_ok hm (fns := fns) (R := 18446744073709551616) none_ok 1) fun f args m r h => ?_
  simp only [ovCheck] at h
  split at h
  · rename_i s
    split at h
    · rename_i hb
      have hf := Nat.eq_of_beq_eq_true hb
      subst hf
      cases h
      have hfn : fns.get (Qou + 1) = some Qy2 := by kernel_rfl
      obtain ⟨m1, h1, h2⟩ := lex_check_law ⟨fun f args m => none, 18446744073709551616⟩ (by show 65537 < 18446744073709551616; omega) s m
      have h3 : Qy2.h ⟨fun f args m => none, 18446744073709551616⟩ [.string s] (withLow m m.next) = some (chkV (if 65536 < s.data.toList.length then (0, 0, 3) else chk s.data.toList 1 1), m1) := h1
      have h4 : Nat.beq Qy2.f Qou = true := Nat.beq_refl _
      rw [shT_succ]
      simp only [hfn, h4, shT_zero, h3]
      rw [gc_eq]; unfold gcO
      have h5 : Nat.ble m.next m1.low = true := Nat.ble_eq.mpr h2
      have h6 : ∀ x, refs m.next 8 (chkV x) = true := fun x => rfl
      rw [h5, h6]
      rfl
    · cases h
  · cases h

/-- does a text begin so? -/
noncomputable def hasP (l p : List UInt8) : Bool := List.rec (motive := fun _ => List UInt8 → Bool) (fun _ => true) (fun a _ ih l => List.rec (motive := fun _ => Bool) false (fun b l _ => Bool.rec false (ih l) (Nat.beq b.toNat a.toNat)) l) p l
theorem hasP_eq : ∀ (p l : List UInt8), hasP l p = (decide (p.length ≤ l.length) && (l.take p.length == p))
  | [], l => by simp [hasP]
  | _ :: _, [] => by simp [hasP]
  | a :: p, b :: l => by
    show (Bool.rec false (hasP l p) (Nat.beq b.toNat a.toNat) : Bool) = _
    have e : ((b :: l).take (a :: p).length == a :: p) = (decide (b = a) && (l.take p.length == p)) := rfl
    rw [hasP_eq p l, e, nbeq]
    by_cases h : b = a
    · subst h; simp
    · have : ¬ b.toNat = a.toNat := fun x => h (UInt8.toNat_inj.mp x)
      simp [h, this]
noncomputable def ovHas : Over := fun f args m => match args with
  | [.string s, .string t] => (match Nat.beq f Q1i with | true => some (.bool (hasP s.data.toList t.data.toList), m) | false => none)
  | _ => none

theorem hasPrefix_law (G : Gt) (s t : ByteArray) (m : Mem) : Q1j G (.string s) (.string t) m = some (.bool (hasP s.data.toList t.data.toList), m) := by
  have es : s.size = s.data.toList.length := by rw [Array.length_toList]; rfl
  have et : t.size = t.data.toList.length := by rw [Array.length_toList]; rfl
  unfold Q1j Q3y Q2g
  rw [hasP_eq]
  simp only [lenK_eq, lenKO, bp_pur, bin_eq, binO, ne_eq, not_true_eq_false, if_false]
  by_cases h : t.data.toList.length ≤ s.data.toList.length
  · have h1 : (s.size : Int) ≥ t.size := by omega
    simp only [h, h1, decide_true, brb_true, bp_pur]
    have h2 : (0 : Int) ≤ t.size := by omega
    have h3 : (t.size : Int) ≤ s.size := by omega
    simp only [aSliceStr_eq, aSliceStrO, bound_eq, boundO, h2, h3, decide_true, Bool.and_self, if_true, bp_pur, bin_eq, binO]
    rw [et, List.drop_zero, Bool.true_and, Int.toNat_natCast]
  · have h1 : ¬ ((s.size : Int) ≥ t.size) := by omega
    simp only [h, h1, decide_false, brb_false, Bool.false_and]

theorem ovHas_ok (hm : Go.Proofs.Tryz.prog.follows .mixedOrders = true) (W0 : World) : OvSound Go.Proofs.Tryz.prog W0 ovHas := by
  refine ov_of_tab (shT_ok hm (fns := fns) (R := 18446744073709551616) none_ok 1) fun f args m r h => ?_
  simp only [ovHas] at h
  split at h
  · rename_i s t
    split at h
    · rename_i hb
      have hf := Nat.eq_of_beq_eq_true hb
      subst hf
      cases h
      have hfn : fns.get (Q1i + 1) = some Q2x := by kernel_rfl
      have h3 : Q2x.h ⟨fun f args m => none, 18446744073709551616⟩ [.string s, .string t] (withLow m m.next) = some (.bool (hasP s.data.toList t.data.toList), withLow m m.next) := hasPrefix_law _ s t _
      have h4 : Nat.beq Q2x.f Q1i = true := Nat.beq_refl _
      rw [shT_succ]
      simp only [hfn, h4, shT_zero, h3]
      rw [gc_eq]; unfold gcO
      have h5 : Nat.ble m.next (withLow m m.next).low = true := Nat.ble_eq.mpr (Nat.le_refl _)
      have h6 : ∀ x, refs m.next 8 (.bool x) = true := fun x => rfl
      rw [h5, h6]
      rfl
    · cases h
  · cases h

end Go.Ab.Sh
