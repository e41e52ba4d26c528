/-
  That calls answer what was found. No conditions.
-/
import Derived.Test.YtchdjkidnjfcjaaGreatDoorD
set_option maxRecDepth 1000000
namespace Go.Ab.Sh
open Go Go.Ab
theorem g3 : M3.good = true := by kernel_rfl
theorem r3 : M3.so (T1 40 M3.f M3.args M3.mem) = true := by kernel_rfl
end Go.Ab.Sh
