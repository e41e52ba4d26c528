/-
  That calls answer what was found. No conditions.
-/
import Derived.Test.YtchdjkidnjfcjaaGreatDoorD
set_option maxRecDepth 1000000
namespace Go.Ab.Sh
open Go Go.Ab
theorem g29 : M29.good = true := by kernel_rfl
theorem r29 : M29.so (T0 40 M29.f M29.args M29.mem) = true := by kernel_rfl
end Go.Ab.Sh
