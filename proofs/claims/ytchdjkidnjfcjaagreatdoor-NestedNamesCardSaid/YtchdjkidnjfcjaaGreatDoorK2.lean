/-
  That calls answer what was found. No conditions.
-/
import Derived.Test.YtchdjkidnjfcjaaGreatDoorD
set_option maxRecDepth 1000000
namespace Go.Ab.Sh
open Go Go.Ab
theorem g4 : M4.good = true := by kernel_rfl
theorem r4 : M4.so (T0 40 M4.f M4.args M4.mem) = true := by kernel_rfl
end Go.Ab.Sh
