/-
  That calls answer what was found. No conditions.
-/
import Derived.Test.YtchdjkidnjfcjaaGreatDoorD
set_option maxRecDepth 1000000
namespace Go.Ab.Sh
open Go Go.Ab
theorem g6 : M6.good = true := by kernel_rfl
theorem r6 : M6.so (T1 40 M6.f M6.args M6.mem) = true := by kernel_rfl
end Go.Ab.Sh
