/-
  waymarklaw13.FlatNames returns true. No conditions.
-/
import Derived.Test.YtbjgjnkihdddlaaGreatDoorR
import Derived.SevenTiedAt
import Derived.ProofKit
import Derived.WalkKit
namespace Go.Proofs.YtbjgjnkihdddlaaGreatDoor
open Go.RowKit Go.ChangeShapes Go.WideShapes Go.ChangeAt
set_option maxRecDepth 100000

theorem own : ownKnob Tryz.prog.godebug = none := by kernel_rfl
theorem gTab : Tryz.prog.globalNamed "internal/strconv.uint64pow10" = some 3 := by kernel_rfl
theorem gSyn : Tryz.prog.globalNamed "strconv.ErrSyntax" = some 4 := by kernel_rfl
theorem gRan : Tryz.prog.globalNamed "strconv.ErrRange" = some 5 := by kernel_rfl
theorem tTab : (Tryz.prog.globals[3]?).map (·.type) = some 334 := by kernel_rfl
theorem tSyn : (Tryz.prog.globals[4]?).map (·.type) = some 151 := by kernel_rfl
theorem tRan : (Tryz.prog.globals[5]?).map (·.type) = some 151 := by kernel_rfl
theorem star : "*" ++ "errors.errorString" = "*errors.errorString" := by decide
theorem rowE (u : TypeId) (h : Tryz.prog.typeName? 3 u = some "*errors.errorString") : u = 340 :=
  typeName_ptr_named (nm := "errors.errorString") (by rw [star]; kernel_rfl) (by kernel_rfl) (by decide) u (by rw [star]; exact h)
theorem cells342 : Tryz.prog.cellsOf 342 = 1 := by kernel_rfl
theorem cells9 : Tryz.prog.cellsOf 9 = 1 := by kernel_rfl
theorem cells334 : Tryz.prog.cellsOf 334 = 20 := by kernel_rfl
theorem powEq : (Rows.laid_internal_strconv_uint64pow10 : DataW Unit) = Lib.tabData .u64 Lib.pow10Tab := by kernel_rfl
theorem row_laid : Rows.flatNamesRow.laid = [("math/bits.deBruijn32tab", Rows.laid_math_bits_deBruijn32tab), ("math/bits.deBruijn64tab", Rows.laid_math_bits_deBruijn64tab), ("internal/strconv.uint64pow10", Rows.laid_internal_strconv_uint64pow10), ("unicode/utf8.acceptRanges", Rows.laid_unicode_utf8_acceptRanges), ("strconv.ErrRange", Rows.laid_strconv_ErrRange), ("strconv.ErrSyntax", Rows.laid_strconv_ErrSyntax), ("unicode/utf8.first", Rows.laid_unicode_utf8_first)] := rfl

theorem cells203 : Tryz.prog.cellsOf 203 = 1 := by kernel_rfl

theorem facts {W : World} (hL0 : laidMetH Tryz.prog Rows.flatNamesRow.laid W) (hsh : W.ShapedOpen Tryz.prog) : Go.Ab.Sh.Facts W := by
  rw [MakeChecks.laidMetH_plain _ _ _ (by kernel_rfl), row_laid] at hL0
  have h2 := hL0.tail.tail
  rw [powEq] at h2
  have h4 := hL0.tail.tail.tail.tail
  obtain ⟨a0, s0, v0, _⟩ := laid_sentinel h4 gRan tRan Tryz.underlying151 rowE Tryz.underlying340 Tryz.underlying342 rfl rfl Tryz.underlying9 cells342 cells9
  obtain ⟨a1, s1, v1, _⟩ := laid_sentinel h4.tail gSyn tSyn Tryz.underlying151 rowE Tryz.underlying340 Tryz.underlying342 rfl rfl Tryz.underlying9 cells342 cells9
  exact ⟨Tryz.laysM219.s1_3 W hsh, Lib.tabIs_of_head gTab tTab Tryz.underlying334 Tryz.underlying203 cells203 cells334 h2, ⟨_, _, v1⟩, _, _, v0⟩

theorem lifted (os : Os) (started : os.Started) (H : Type) (enc : TypeId × Value → H) :
    ReturnsInHanded {} Tryz.checked os 3 .any (fun w args => (Rows.flatNamesSpec.pre enc Tryz.prog Tryz.f3 [] false w args ∧ laidMetH Tryz.prog Rows.flatNamesRow.laid w) ∧ sizedMet enc Tryz.prog Tryz.f3 (OpenSpec.ofChange Rows.flatNamesSpec) false w args)
      (Rows.flatNamesSpec.post enc Tryz.prog Tryz.f3 false true false false) := by
  refine returnsInHanded_of_calls (C := Tryz.checked) own started (by kernel_rfl)
    (ChangeSpec.witness_shaped (enc := enc) (C := Tryz.checked) (os := os) (X := fun w _ => laidMetH Tryz.prog Rows.flatNamesRow.laid w) false (World.laidAll Tryz.prog os Rows.flatNamesRow.laid) #[] 8 (World.laidAll_os _ _ _)
      (World.shaped_of_ZipB (by kernel_rfl) (by kernel_rfl)) (by kernel_rfl) (by kernel_rfl) (by kernel_rfl)
      (by rw [MakeChecks.laidMetH_plain _ _ _ (by kernel_rfl)]; exact laidMet_laidAll _ (by kernel_rfl) (by kernel_rfl))) ?_
  intro w tape i _ hsh _ hok hpre hholds
  obtain ⟨_, _, _, fn', hfn', _, _, _, _, hval⟩ := hok
  have e : fn' = Tryz.f3 := Option.some.inj (hfn'.symm.trans Tryz.func3)
  subst e
  obtain ⟨⟨⟨ds, gs, before, hw, hc⟩, hL⟩, hz⟩ := hpre
  have hW' := DataW.Whole.of_heap (w' := w.forCall tape i) (by rfl) hw
  have hF := facts (laidMetH.of_heap (w' := w.forCall tape i) (by rfl) hL) hsh
  have hW := hW'
  obtain ⟨p, q, hA0, hV, rfl, _, _⟩ := hW
  have hA : DataW.TrodAll enc Tryz.prog (w.forCall tape i) 0 (fun _ => true) true Tryz.f3.params.toList i.args.toList ds p := hA0
  rw [Tryz.params3] at hA
  obtain ⟨ha, rfl, rfl⟩ := trodAll_none hA
  obtain ⟨rfl, rfl⟩ := trodVars_none hV
  simp only [List.append_nil] at hW'
  rw [ha] at hW' ⊢
  refine (Go.Ab.Sh.runs hF).mono fun e W' ⟨he, hb⟩ => ?_
  subst he
  have hpost : Rows.flatNamesSpec.post enc Tryz.prog Tryz.f3 false true false false (w.forCall tape i) #[] (.bool true) W' :=
    ⟨_, _, _, [], [], [], hW', trodAll_mk1 (shut_bool Tryz.underlying4 _), trodAll_mk0, rfl, hb.frame _, fun h => by cases h⟩
  exact ChangeSpec.post_blind hpost

theorem flatNames_holds : Rows.FlatNamesSaid :=
  OpenClaim.holds_of_wide 3 Tryz.f3 rfl rfl rfl rfl rfl rfl rfl ⟨rfl, rfl, rfl, rfl, rfl⟩ rfl rfl rfl rfl rfl (by kernel_rfl) Tryz.func3 (by kernel_rfl)
    (of_decide_eq_true (by kernel_rfl)) (by unfold Func.isWrapper; first | (rw [if_pos (by decide +kernel)]; kernel_rfl) | (rw [if_neg (by decide +kernel)]; exact ⟨rfl, rfl⟩))
    (fun os started H enc _ => lifted os started H enc)

theorem flatNames_card : Rows.FlatNamesCardSaid :=
  Claim7.holds_tied_plain_at .later [] [.data, .data, .data, .data, .sentinel, .sentinel, .pinned] true (true, "5953eb75af71bb830f6e525767818f06e13e9a47c975881d78302c0fcf624629") true
    flatNames_holds (fun _ h => by cases h) (by kernel_rfl) (fun _ h => by cases h) flatNames_row_tie rfl ⟨rfl, rfl⟩ (by kernel_rfl) rfl
    (fun f fn hf hfn => by
      obtain rfl : f = 3 := Option.some.inj ((show Tryz.prog.funcNamed "waymark/waymarklaw13.FlatNames" = some 3 by kernel_rfl).symm.trans hf) |>.symm
      obtain rfl : fn = Tryz.f3 := (Option.some.inj (Tryz.func3.symm.trans hfn)).symm
      exact ⟨by kernel_rfl, fun j t ht => by
        rw [Tryz.params3] at ht
        simp at ht⟩)
    (by kernel_rfl)
#print axioms flatNames_card

end Go.Proofs.YtbjgjnkihdddlaaGreatDoor
