/-
  That calls answer what was found. No conditions.
-/
import Derived.Test.YtoahkkdbdiamcaaGreatDoorD
set_option maxRecDepth 1000000
namespace Go.Ab.Sh
open Go Go.Ab
theorem g0 : M0.good = true := by kernel_rfl
theorem r0 : M0.so (T0 1000 M0.f M0.args M0.mem) = true := by kernel_rfl
end Go.Ab.Sh
