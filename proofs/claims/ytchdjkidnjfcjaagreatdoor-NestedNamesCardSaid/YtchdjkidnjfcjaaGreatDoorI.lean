/-
  What the library lays is what the answers want; the call over every start. No conditions.
-/
import Derived.Test.YtchdjkidnjfcjaaGreatDoorR
import Derived.SevenTiedAt
import Derived.ProofKit
import Derived.WalkKit
namespace Go.Proofs.YtchdjkidnjfcjaaGreatDoor
open Go.RowKit Go.ChangeShapes Go.WideShapes Go.ChangeAt
set_option maxRecDepth 100000

theorem own : ownKnob Tryz.prog.godebug = none := by kernel_rfl
theorem g_pow : Tryz.prog.globalNamed "internal/strconv.uint64pow10" = some 3 := by kernel_rfl
theorem t_pow : (Tryz.prog.globals[3]?).map (·.type) = some 370 := by kernel_rfl
theorem c_pow : Tryz.prog.cellsOf 370 = 20 := by kernel_rfl
theorem Q1sv : (Rows.laid_internal_strconv_uint64pow10 : DataW Unit) = Lib.tabData .u64 Lib.pow10Tab := by kernel_rfl
theorem u_pow : Tryz.prog.underlying 370 = some (TypeDesc.array 20 212) := by kernel_rfl
theorem k_pow : Tryz.prog.underlying 212 = some (.int .u64) := by kernel_rfl
theorem Q1sw : Tryz.prog.cellsOf 212 = 1 := by kernel_rfl
theorem g_spc : Tryz.prog.globalNamed "strings.asciiSpace" = some 0 := by kernel_rfl
theorem t_spc : (Tryz.prog.globals[0]?).map (·.type) = some 198 := by kernel_rfl
theorem c_spc : Tryz.prog.cellsOf 198 = 256 := by kernel_rfl
theorem Q1sx : (Rows.laid_strings_asciiSpace : DataW Unit) = Lib.tabData .u8 Lib.asciiSpaceTab := by kernel_rfl
theorem u_spc : Tryz.prog.underlying 198 = some (TypeDesc.array 256 5) := by kernel_rfl
theorem k_spc : Tryz.prog.underlying 5 = some (.int .u8) := by kernel_rfl
theorem Q1sy : Tryz.prog.cellsOf 5 = 1 := by kernel_rfl
theorem g_syn : Tryz.prog.globalNamed "strconv.ErrSyntax" = some 6 := by kernel_rfl
theorem g_ran : Tryz.prog.globalNamed "strconv.ErrRange" = some 7 := by kernel_rfl
theorem t_syn : (Tryz.prog.globals[6]?).map (·.type) = some 203 := by kernel_rfl
theorem t_ran : (Tryz.prog.globals[7]?).map (·.type) = some 203 := by kernel_rfl
theorem star : "*" ++ "errors.errorString" = "*errors.errorString" := by decide
theorem rowE (u : TypeId) (h : Tryz.prog.typeName? 3 u = some "*errors.errorString") : u = 405 :=
  typeName_ptr_named (nm := "errors.errorString") (by rw [star]; kernel_rfl) (by kernel_rfl) (by decide) u (by rw [star]; exact h)
theorem c_es : Tryz.prog.cellsOf 407 = 1 := by kernel_rfl
theorem c_st : Tryz.prog.cellsOf 9 = 1 := by kernel_rfl
theorem row_laid : Rows.nestedNamesRow.laid = [("math/bits.deBruijn32tab", Rows.laid_math_bits_deBruijn32tab), ("math/bits.deBruijn64tab", Rows.laid_math_bits_deBruijn64tab), ("internal/strconv.uint64pow10", Rows.laid_internal_strconv_uint64pow10), ("unicode/utf8.acceptRanges", Rows.laid_unicode_utf8_acceptRanges), ("strconv.ErrRange", Rows.laid_strconv_ErrRange), ("strconv.ErrSyntax", Rows.laid_strconv_ErrSyntax), ("unicode.White_Space", Rows.laid_unicode_White_Space), ("strings.asciiSpace", Rows.laid_strings_asciiSpace), ("unicode/utf8.first", Rows.laid_unicode_utf8_first)] := rfl

theorem facts {W : World} (hL0 : laidMetH Tryz.prog Rows.nestedNamesRow.laid W) (hsh : W.ShapedOpen Tryz.prog) : Go.Ab.Sh.Facts W := by
  rw [MakeChecks.laidMetH_plain _ _ _ (by kernel_rfl), row_laid] at hL0
  have h_pow := hL0.tail.tail
  rw [Q1sv] at h_pow
  have h_spc := hL0.tail.tail.tail.tail.tail.tail.tail
  rw [Q1sx] at h_spc
  obtain ⟨a0, s0, v0, _⟩ := laid_sentinel hL0.tail.tail.tail.tail g_ran t_ran Tryz.underlying203 rowE Tryz.underlying405 Tryz.underlying407 rfl rfl Tryz.underlying9 c_es c_st
  obtain ⟨a1, s1, v1, _⟩ := laid_sentinel hL0.tail.tail.tail.tail.tail g_syn t_syn Tryz.underlying203 rowE Tryz.underlying405 Tryz.underlying407 rfl rfl Tryz.underlying9 c_es c_st
  exact { mx := Tryz.laysM219.s1_3 W hsh, tab := Lib.tabIs_of_head g_pow t_pow u_pow k_pow Q1sw c_pow h_pow, spc := Lib.tabIs_of_head g_spc t_spc u_spc k_spc Q1sy c_spc h_spc, err := ⟨⟨_, _, v1⟩, _, _, v0⟩ }

theorem lifted (os : Os) (started : os.Started) (H : Type) (enc : TypeId × Value → H) :
    ReturnsInHanded {} Tryz.checked os 3 .any (fun w args => (Rows.nestedNamesSpec.pre enc Tryz.prog Tryz.f3 [] false w args ∧ laidMetH Tryz.prog Rows.nestedNamesRow.laid w) ∧ sizedMet enc Tryz.prog Tryz.f3 (OpenSpec.ofChange Rows.nestedNamesSpec) false w args)
      (Rows.nestedNamesSpec.post enc Tryz.prog Tryz.f3 false true false false) := by
  refine returnsInHanded_of_calls (C := Tryz.checked) own started (by kernel_rfl)
    (ChangeSpec.witness_shaped (enc := enc) (C := Tryz.checked) (os := os) (X := fun w _ => laidMetH Tryz.prog Rows.nestedNamesRow.laid w) false (World.laidAll Tryz.prog os Rows.nestedNamesRow.laid) #[] 8 (World.laidAll_os _ _ _)
      (World.shaped_of_ZipB (by kernel_rfl) (by kernel_rfl)) (by kernel_rfl) (by kernel_rfl) (by kernel_rfl)
      (by rw [MakeChecks.laidMetH_plain _ _ _ (by kernel_rfl)]; exact laidMet_laidAll _ (by kernel_rfl) (by kernel_rfl))) ?_
  intro w tape i _ hsh _ hok hpre hholds
  obtain ⟨_, _, _, fn', hfn', _, _, _, _, hval⟩ := hok
  have e : fn' = Tryz.f3 := Option.some.inj (hfn'.symm.trans Tryz.func3)
  subst e
  obtain ⟨⟨⟨ds, gs, before, hw, hc⟩, hL⟩, hz⟩ := hpre
  have hW' := DataW.Whole.of_heap (w' := w.forCall tape i) (by rfl) hw
  have hF := facts (laidMetH.of_heap (w' := w.forCall tape i) (by rfl) hL) hsh
  have hW := hW'
  obtain ⟨p, q, hA0, hV, rfl, _, _⟩ := hW
  have hA : DataW.TrodAll enc Tryz.prog (w.forCall tape i) 0 (fun _ => true) true Tryz.f3.params.toList i.args.toList ds p := hA0
  rw [Tryz.params3] at hA
  obtain ⟨ha, rfl, rfl⟩ := trodAll_none hA
  obtain ⟨rfl, rfl⟩ := trodVars_none hV
  simp only [List.append_nil] at hW'
  rw [ha] at hW' ⊢
  refine (Go.Ab.Sh.runs hF).mono fun e W' ⟨he, hb⟩ => ?_
  subst he
  have hpost : Rows.nestedNamesSpec.post enc Tryz.prog Tryz.f3 false true false false (w.forCall tape i) #[] (.bool true) W' :=
    ⟨_, _, _, [], [], [], hW', trodAll_mk1 (shut_bool Tryz.underlying4 _), trodAll_mk0, rfl, hb.frame _, fun h => by cases h⟩
  exact ChangeSpec.post_blind hpost

end Go.Proofs.YtchdjkidnjfcjaaGreatDoor
