/-
  Contracts of the library as answers of the table. No conditions.
-/
import Derived.Test.YtchdjkidnjfcjaaGreatDoorD
import Derived.Test.YtchdjkidnjfcjaaGreatDoorLib
import Derived.Test.YtchdjkidnjfcjaaGreatDoorTie
import Derived.Test.YtchdjkidnjfcjaaGreatDoorCards
import Derived.Stop.LaidErr
import Derived.LaidLaws
import Derived.Lib.Builder
import Derived.Lib.ConvBytes
import Derived.Handed
import Derived.Lay
import Derived.MakeChecks
set_option maxRecDepth 100000
namespace Go.Ab.Sh
open Go Go.Ab Go.Proofs Go.Shelf
open Go.RowKit (Below)

theorem mixedOrders : Tryz.prog.follows .mixedOrders = true := by kernel_rfl

theorem below_bytes (w : World) (e : TypeId) (s : ByteArray) : Below w.heap.size w (Lib.bytesWorld w e s) :=
  ⟨rfl, rfl, rfl, by rw [Lib.bytesWorld_size]; omega, fun k hk => Lib.bytesWorld_at_old w e s k hk⟩

theorem below_grow (w : World) (k : Nat) (os : Array Obj) : Below w.heap.size w (Go.Sort.grow (w.drewN k) os) := by
  refine ⟨rfl, rfl, rfl, ?_, fun j hj => ?_⟩
  · show w.heap.size ≤ (w.heap ++ os).size
    simp
  · show (w.heap ++ os)[j]? = w.heap[j]?
    rw [Array.getElem?_append_left hj]

section
variable {W : World}

theorem okIndex {mx : Int} (hmx : W.cell? ⟨2, 0, none⟩ = some (.int .i64 mx)) : OvSound Tryz.prog W Q14 := by
  unfold Q14
  rw [ixF_eq]
  exact ovIndex_ok (fn := Tryz.f173) Tryz.func173 rfl rfl hmx (fun s sub w hs hm => Any.stringslite_Index Tryz.lays219 s sub mx w hs hm)

theorem okCount : OvSound Tryz.prog W Q84 := by
  unfold Q84
  rw [cntF_eq]
  exact ovCount_ok (fn := Tryz.f278) Tryz.func278 rfl rfl (fun s b w => Any.strings_Count_one Tryz.lays138 s b w)

theorem okNoEscape : OvSound Tryz.prog W Q3w :=
  ovSame_ok (fun x w => by
    have h := run_callFunc_extern (P := Tryz.prog) (w := w) (args := #[x]) (Tryz.func229) (by kernel_rfl) (by kernel_rfl) (by kernel_rfl) (e := Extern.AbiNoEscape.same) (by kernel_rfl)
    refine Eq.trans h ?_
    rw [Lib.run_noEscape]
    rfl)

theorem okItoa (htab : Lib.TabIs Tryz.prog W "internal/strconv.uint64pow10" .u64 Lib.pow10Tab) : OvSound Tryz.prog W Qem :=
  ovItoa_ok (fn := Tryz.f49) Tryz.func49 rfl rfl htab (fun n w h0 h1 ht => (Any.strconv_Itoa Tryz.laysM171 n h0 h1 w ht).mono fun e w' ⟨he, k, os, hw⟩ => ⟨he, by rw [hw]; exact below_grow _ _ _⟩)

/-- what the two errors' variables hold -/
def ErrVars (w : World) : Prop := (∃ tp p, w.var? Tryz.prog "strconv.ErrSyntax" = some #[.iface tp p]) ∧ ∃ tp p, w.var? Tryz.prog "strconv.ErrRange" = some #[.iface tp p]

theorem errVars_kept (h : ErrVars W) (w : World) (hB : Below W.heap.size W w) : ErrVars w := by
  obtain ⟨⟨a, b, h1⟩, ⟨c, d, h2⟩⟩ := h
  exact ⟨⟨a, b, var_kept hB h1⟩, ⟨c, d, var_kept hB h2⟩⟩

theorem okAtoi (hv : ErrVars W) : OvSound Tryz.prog W Qen :=
  ovAtoi_ok (fn := Tryz.f271) Tryz.func271 rfl rfl (errVars_kept hv)
    (fun s v w hs h => (Any.strconv_Atoi_ok Tryz.laysC172 s (by omega) v h w).mono fun e w' ⟨he, hw⟩ => ⟨he, by
      rcases hw with rfl | ⟨t, rfl⟩
      · exact Below.refl _ _
      · exact below_bytes _ _ _⟩)
    (fun s w hs h hV => by
      obtain ⟨⟨tp, p, h1⟩, _⟩ := hV
      exact (Any.strconv_Atoi_syntax_var Tryz.laysC172 s hs h tp p w h1).mono fun e w' ⟨N, he, hN, hc, hb⟩ => ⟨N, he, hN, ⟨_, _, hc⟩, hb⟩)
    (fun s w hs h hV => by
      obtain ⟨_, tp, p, h1⟩ := hV
      exact (Any.strconv_Atoi_range_var Tryz.laysC172 s hs h tp p w h1).mono fun e w' ⟨N, he, hN, hc, hb⟩ => ⟨N, he, hN, ⟨_, _, hc⟩, hb⟩)

theorem okPu (hv : ErrVars W) : OvSound Tryz.prog W Q6s :=
  ovPu_ok (fn := Tryz.f273) Tryz.func273 rfl rfl (errVars_kept hv)
    (fun s v w hs h => (Any.strconv_ParseUint_10_at16_ok Tryz.laysPu14 s (by omega) v h w).mono fun e w' ⟨he, hw⟩ => ⟨he, by
      rcases hw with rfl | rfl
      · exact Below.refl _ _
      · exact below_bytes _ _ _⟩)
    (fun s w hs h hV => by
      obtain ⟨⟨tp, p, h1⟩, _⟩ := hV
      exact (Any.strconv_ParseUint_10_at16_syntax_var Tryz.laysPu14 s hs h tp p w h1).mono fun e w' ⟨N, he, hN, hc, hb⟩ => ⟨N, he, hN, ⟨_, _, hc⟩, hb⟩)
    (fun s w hs h hV => by
      obtain ⟨_, tp, p, h1⟩ := hV
      exact (Any.strconv_ParseUint_10_at16_range_var Tryz.laysPu14 s hs h tp p w h1).mono fun e w' ⟨N, he, hN, hc, hb⟩ => ⟨N, he, hN, ⟨_, _, hc⟩, hb⟩)

theorem okJoin : OvSound Tryz.prog W Qeo :=
  ovJoin_ok (fn := Tryz.f48) Tryz.func48 rfl rfl (fun a c sep w => Any.strings_Join_none Tryz.lays156 Tryz.Builder_Extra_156 a c sep w)
    (fun bk o c xs sep w h1 h2 h3 h4 h5 => Any.strings_Join Tryz.lays156 Tryz.Builder_Extra_156 bk o c xs sep w h1 h2 h3 h4 h5)

theorem okCheck : OvSound Tryz.prog W Qpi := ovCheck_ok mixedOrders W

theorem okHas : OvSound Tryz.prog W Q1l := ovHas_ok mixedOrders W

theorem okIndexByte : OvSound Tryz.prog W Q1m :=
  ovByte_ok (fn := Tryz.f171) Tryz.func171 rfl rfl (fun s n v w hv => by
    rw [ixByteV_eq] at hv
    cases hv
    exact ⟨rfl, Any.stringslite_IndexByte Tryz.lays217 s n w⟩)

theorem okIndexRune : OvSound Tryz.prog W Q6t :=
  ovByte_ok (fn := Tryz.f174) Tryz.func174 rfl rfl (fun s n v w hv => by
    split at hv
    · rename_i h
      simp only [Bool.and_eq_true, ile_eq, ilt_eq, decide_eq_true_eq] at h
      rw [ixByteV_eq] at hv
      cases hv
      exact ⟨rfl, Any.strings_IndexRune_ascii Tryz.lays152 s n w h.1 h.2⟩
    · cases hv)

theorem okFields (htab : Lib.TabIs Tryz.prog W "strings.asciiSpace" .u8 Lib.asciiSpaceTab) : OvSound Tryz.prog W Qao :=
  ovFields_ok (fn := Tryz.f47) (tab := fun w => Lib.TabIs Tryz.prog w "strings.asciiSpace" .u8 Lib.asciiSpaceTab) Tryz.func47 rfl rfl (fun w hB => var_kept hB htab) (fun s w hs ha ht => Any.strings_Fields_laid Tryz.laysM157 s w hs ha ht)

end
end Go.Ab.Sh
