/-
  That calls answer what was found. No conditions.
-/
import Derived.Test.YtchdjkidnjfcjaaGreatDoorD
set_option maxRecDepth 1000000
namespace Go.Ab.Sh
open Go Go.Ab
theorem g2 : M2.good = true := by kernel_rfl
theorem r2 : M2.so (T0 40 M2.f M2.args M2.mem) = true := by kernel_rfl
end Go.Ab.Sh
