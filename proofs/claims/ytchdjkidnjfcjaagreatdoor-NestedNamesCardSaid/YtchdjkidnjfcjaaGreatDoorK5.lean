/-
  That calls answer what was found. No conditions.
-/
import Derived.Test.YtchdjkidnjfcjaaGreatDoorD
set_option maxRecDepth 1000000
namespace Go.Ab.Sh
open Go Go.Ab
theorem g7 : M7.good = true := by kernel_rfl
theorem r7 : M7.so (T2 40 M7.f M7.args M7.mem) = true := by kernel_rfl
end Go.Ab.Sh
