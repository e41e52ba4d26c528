/-
  That calls answer what was found. No conditions.
-/
import Derived.Test.YtchdjkidnjfcjaaGreatDoorD
set_option maxRecDepth 1000000
namespace Go.Ab.Sh
open Go Go.Ab
theorem g8 : M8.good = true := by kernel_rfl
theorem r8 : M8.so (T0 40 M8.f M8.args M8.mem) = true := by kernel_rfl
end Go.Ab.Sh
