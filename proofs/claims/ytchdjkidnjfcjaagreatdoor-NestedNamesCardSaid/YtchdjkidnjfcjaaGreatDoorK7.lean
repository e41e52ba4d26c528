/-
  That calls answer what was found. No conditions.
-/
import Derived.Test.YtchdjkidnjfcjaaGreatDoorD
set_option maxRecDepth 1000000
namespace Go.Ab.Sh
open Go Go.Ab
theorem g9 : M9.good = true := by kernel_rfl
theorem r9 : M9.so (T0 40 M9.f M9.args M9.mem) = true := by kernel_rfl
end Go.Ab.Sh
