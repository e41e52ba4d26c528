/-
  The ties of this seat: the listed variables start as the program's text lays them; each closed fact by itself. No conditions.
-/
import Derived.Test.YtbpkpklaegnkiaaGreatDoorRows
import Derived.LaidByTextLater
import Derived.SevenTiedAt
import Derived.Test.YtbpkpklaegnkiaaGreatDoorV
import Derived.LaidOnce
namespace Go.Proofs.YtbpkpklaegnkiaaGreatDoor
open Go
set_option maxRecDepth 100000
theorem pin_laid_unicode_utf8_first : Tryz.pinned.checked.prog.pinnedFits "unicode/utf8.first" = true := by kernel_rfl
theorem noOwnUnsafe : Tryz.pinned.checked.prog.headLifts.contains "ownunsafe" = false := by kernel_rfl
theorem fits1 : Tryz.pinned.checked.prog.listedFits [("internal/strconv.uint64pow10", Rows.laid_internal_strconv_uint64pow10), ("math/bits.deBruijn32tab", Rows.laid_math_bits_deBruijn32tab), ("math/bits.deBruijn64tab", Rows.laid_math_bits_deBruijn64tab), ("unicode/utf8.first", Rows.laid_unicode_utf8_first), ("unicode/utf8.acceptRanges", Rows.laid_unicode_utf8_acceptRanges), ("strconv.ErrSyntax", Rows.laid_strconv_ErrSyntax), ("strconv.ErrRange", Rows.laid_strconv_ErrRange), ("strings.asciiSpace", Rows.laid_strings_asciiSpace), ("unicode.White_Space", Rows.laid_unicode_White_Space)] = true := by
  unfold Program.listedFits
  rw [noOwnUnsafe]
  kernel_rfl
theorem u_hw : Tryz.prog.worded (varsWordLater true) = true := by kernel_rfl
theorem u_hw2 : Tryz.prog.worded (varsWordLater !true) = false := by kernel_rfl
theorem u_root : Tryz.prog.worded rootWordLater = true := by kernel_rfl
theorem u_k0 : Tryz.prog.kindOfLater "internal/strconv.uint64pow10" = some .data := by kernel_rfl
theorem u_k1 : Tryz.prog.kindOfLater "math/bits.deBruijn32tab" = some .data := by kernel_rfl
theorem u_k2 : Tryz.prog.kindOfLater "math/bits.deBruijn64tab" = some .data := by kernel_rfl
theorem u_k3 : Tryz.prog.kindOfLater "unicode/utf8.acceptRanges" = some .data := by kernel_rfl
theorem u_k4 : Tryz.prog.kindOfLater "strconv.ErrSyntax" = some .sentinel := by kernel_rfl
theorem u_k5 : Tryz.prog.kindOfLater "strconv.ErrRange" = some .sentinel := by kernel_rfl
theorem u_k6 : Tryz.prog.kindOfLater "strings.asciiSpace" = some .data := by kernel_rfl
theorem u_k7 : Tryz.prog.kindOfLater "unicode.White_Space" = some .listed := by kernel_rfl
theorem u_hk : (u_L.map (fun x : String × DataW Unit => Tryz.prog.kindOfLater x.1)) = ([.data, .data, .data, .data, .sentinel, .sentinel, .data, .listed] : List LaidKind).map some := by
  show [Tryz.prog.kindOfLater "internal/strconv.uint64pow10", Tryz.prog.kindOfLater "math/bits.deBruijn32tab", Tryz.prog.kindOfLater "math/bits.deBruijn64tab", Tryz.prog.kindOfLater "unicode/utf8.acceptRanges", Tryz.prog.kindOfLater "strconv.ErrSyntax", Tryz.prog.kindOfLater "strconv.ErrRange", Tryz.prog.kindOfLater "strings.asciiSpace", Tryz.prog.kindOfLater "unicode.White_Space"] = ([.data, .data, .data, .data, .sentinel, .sentinel, .data, .listed] : List LaidKind).map some
  rw [u_k0, u_k1, u_k2, u_k3, u_k4, u_k5, u_k6, u_k7]
  rfl
theorem u_hg : (Tryz.prog.funcNamed "gosem.cut.vars").isSome = true := by kernel_rfl
theorem u_hn : varsNamedLaterB Tryz.prog (varsId Tryz.prog) u_L = true := by kernel_rfl
theorem tie : Tryz.prog.laidByTextLater u_L [.data, .data, .data, .data, .sentinel, .sentinel, .data, .listed] true :=
  Program.laidByTextLater_by_one 400 8 257 u_hw u_hw2 u_root u_hk u_hg u_hn u_run
theorem askBackUpto_row_tie : Rows.askBackUptoRow.laidByTextAt .later Tryz.pinned [.data, .data, .data, .pinned, .data, .sentinel, .sentinel, .data, .listed] true :=
  OpenClaim.laidByTextAt_pinned rfl rfl tie rfl rfl rfl rfl (fun y hy _e => by
    simp only [Rows.askBackUptoRow, List.zip_cons_cons, List.zip_nil_right, List.mem_cons, List.mem_nil_iff, or_false] at hy
    rcases hy with rfl | rfl | rfl | rfl | rfl | rfl | rfl | rfl | rfl
    · cases _e
    · cases _e
    · cases _e
    · exact ⟨pin_laid_unicode_utf8_first, by kernel_rfl⟩
    · cases _e
    · cases _e
    · cases _e
    · cases _e
    · cases _e) fits1
end Go.Proofs.YtbpkpklaegnkiaaGreatDoor
