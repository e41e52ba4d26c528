/-
  That calls answer what was found. No conditions.
-/
import Derived.Test.YtchdjkidnjfcjaaGreatDoorD
set_option maxRecDepth 1000000
namespace Go.Ab.Sh
open Go Go.Ab
theorem g5 : M5.good = true := by kernel_rfl
theorem r5 : M5.so (T0 40 M5.f M5.args M5.mem) = true := by kernel_rfl
end Go.Ab.Sh
