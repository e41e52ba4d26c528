/-
  What the listed variables read as at the end of the program's own laying of them: the run, and its data. No conditions.
-/
import Derived.Test.YtbpkpklaegnkiaaGreatDoorRows
import Derived.LaidByTextLater
import Derived.LaidOnce
namespace Go.Proofs.YtbpkpklaegnkiaaGreatDoor
open Go
set_option maxRecDepth 100000
def u_i (k : IntKind) (l : List Nat) : Array Value := ⟨l.map fun (n : Nat) => .int k (n : Int)⟩
theorem u_g : varsId Tryz.prog = 734 := by kernel_rfl
def u_w (os : Os) (tape : Tape) : World := { heap := #[.cells (u_i .u8 ([0,0,0,0,0,0,0,0,0,1,1,1,1,1]++List.replicate 18 0++[1]++List.replicate 223 0)) 120 (0,0),
 .cells #[(.pointer (some ⟨21, 0, none⟩))] 188 (0,0),
 .cells #[(.int .i64 0)] 3 (0,0),
 .cells #[(.iface 548 (.pointer (some ⟨19, 0, none⟩)))] 108 (0,0),
 .cells #[(.iface 548 (.pointer (some ⟨18, 0, none⟩)))] 108 (0,0),
 .cells (u_i .u64 ([1,10,100,1000,10000,100000,1000000,10000000,100000000,1000000000,10000000000,100000000000,1000000000000,10000000000000,100000000000000,1000000000000000,10000000000000000,100000000000000000,1000000000000000000,10000000000000000000])) 407 (0,0),
 .cells (u_i .u8 (List.replicate 256 0)) 120 (0,0),
 .cells (u_i .u8 ([128,191,160,191,128,159,144,191,128,143]++List.replicate 22 0)) 545 (0,0),
 .cells #[(.iface 10 (.string ⟨#[105, 110, 116, 101, 103, 101, 114, 32, 100, 105, 118, 105, 100, 101, 32, 98, 121, 32, 122, 101, 114, 111]⟩))] 108 (0,0),
 .cells #[(.iface 10 (.string ⟨#[105, 110, 116, 101, 103, 101, 114, 32, 111, 118, 101, 114, 102, 108, 111, 119]⟩))] 108 (0,0),
 .cells (u_i .u8 ([0,1,28,2,29,14,24,3,30,22,20,15,25,17,4,8,31,27,13,23,21,19,16,7,26,12,18,6,11,5,10,9])) 666 (0,0),
 .cells (u_i .u8 ([0,1,56,2,57,49,28,3,61,58,42,50,38,29,17,4,62,47,59,36,45,43,51,22,53,39,33,30,24,18,12,5,63,55,48,27,60,41,37,16,46,35,44,21,52,32,23,11,54,26,40,15,34,20,31,10,25,14,19,9,13,8,7,6])) 667 (0,0),
 .cells #[(.pointer (some ⟨21, 0, none⟩))] 188 (0,0),
 .cells (u_i .u64 (List.range 841)) 0 (0,0),
 .map #[] 0,
 .finalizers #[] none,
 .cells #[(.bool false)] 0 (0,0),
 .finalizers #[] none,
 .cells #[(.string ⟨#[118, 97, 108, 117, 101, 32, 111, 117, 116, 32, 111, 102, 32, 114, 97, 110, 103, 101]⟩)] 550 (0,0),
 .cells #[(.string ⟨#[105, 110, 118, 97, 108, 105, 100, 32, 115, 121, 110, 116, 97, 120]⟩)] 550 (0,0),
 .cells (u_i .u16 ([9,13,1,32,133,101,160,5760,5600,8192,8202,1,8232,8233,1,8239,8287,48,12288,12288,1])) 298 (0,0),
 .cells #[(.slice (some ⟨20, 0, none⟩) 7 7), (.slice none 0 0), (.int .i64 2)] 296 (0,0)], tape := tape, drawn := 0, os := os, output := #[] }
theorem u_end (os : Os) (tape : Tape) : runN Tryz.prog 400 (Machine.entering Tryz.prog (World.unlaid Tryz.prog os) tape 734 ⟨#[], #[], []⟩) = .ended (.done (.tuple #[])) (u_w os tape) := by kernel_rfl
def u_L : List (String × DataW Unit) := [("internal/strconv.uint64pow10", Rows.laid_internal_strconv_uint64pow10), ("math/bits.deBruijn32tab", Rows.laid_math_bits_deBruijn32tab), ("math/bits.deBruijn64tab", Rows.laid_math_bits_deBruijn64tab), ("unicode/utf8.acceptRanges", Rows.laid_unicode_utf8_acceptRanges), ("strconv.ErrSyntax", Rows.laid_strconv_ErrSyntax), ("strconv.ErrRange", Rows.laid_strconv_ErrRange), ("strings.asciiSpace", Rows.laid_strings_asciiSpace), ("unicode.White_Space", Rows.laid_unicode_White_Space)]
def u_N : List String := ["internal/strconv.uint64pow10", "math/bits.deBruijn32tab", "math/bits.deBruijn64tab", "unicode/utf8.acceptRanges", "strconv.ErrSyntax", "strconv.ErrRange", "strings.asciiSpace", "unicode.White_Space"]
theorem u_f : (u_L.filter fun x => x.2.handleName?.isNone) = u_L := by kernel_rfl
theorem u_n : u_L.map (fun x => x.1) = u_N := by kernel_rfl
theorem u_f2 : (u_L.filter fun x => x.2.handleName?.isSome && x.2.funcsIn?.isNone) = [] := by kernel_rfl
theorem u_fl : funcsListed u_L = [] := by kernel_rfl
theorem u_h1 (os : Os) (tape : Tape) : (DataW.laidRun Tryz.prog (u_w os tape).memory 8 u_N).map (fun x => x.1) = some u_L := by kernel_rfl
theorem u_h2 (os : Os) (tape : Tape) : (DataW.laidRun Tryz.prog (u_w os tape).memory 8 u_N).map (fun x => nodupBits 257 x.2 0) = some true := by kernel_rfl
theorem u_h3 (os : Os) (tape : Tape) : (DataW.laidRun Tryz.prog (u_w os tape).memory 8 u_N).map (fun x => laidRowsB Tryz.prog (u_w os tape).memory x.2) = some true := by kernel_rfl
theorem u_door {A B C : Type} {o : Option (A × B)} {p q : A × B → Bool} {s : Bool} {r : Option C} {l : A} {c : C} (h1 : o.map (fun x => x.1) = some l) (h2 : o.map p = some true) (h3 : o.map q = some true) (hs : s = true) (hr : r = some c) :
    (o.bind fun x => if (p x && q x && s) = true then r.map fun y => (x.1, y) else none) = some (l, c) := by
  cases o with
  | none => cases h1
  | some x =>
    have e1 : x.1 = l := Option.some.inj h1
    have e2 : p x = true := Option.some.inj h2
    have e3 : q x = true := Option.some.inj h3
    subst e1 hs hr
    simp [e2, e3]
theorem u_run (os : Os) (tape : Tape) : doorLeaves Tryz.prog 400 8 257 u_L os tape = some (u_L.filter fun x => x.2.handleName?.isNone, (funcsListed u_L).map (·.2.funcsOut)) := by
  unfold doorLeaves
  rw [u_g, u_end, u_f, u_n, u_f2, u_fl]
  exact u_door (u_h1 os tape) (u_h2 os tape) (u_h3 os tape) rfl rfl
end Go.Proofs.YtbpkpklaegnkiaaGreatDoor
