/-
  That calls answer what was found. No conditions.
-/
import Derived.Test.YtbjgjnkihdddlaaGreatDoorD
set_option maxRecDepth 1000000
namespace Go.Ab.Sh
open Go Go.Ab
theorem g10 : M10.good = true := by kernel_rfl
theorem r10 : M10.so (T0 40 M10.f M10.args M10.mem) = true := by kernel_rfl
end Go.Ab.Sh
