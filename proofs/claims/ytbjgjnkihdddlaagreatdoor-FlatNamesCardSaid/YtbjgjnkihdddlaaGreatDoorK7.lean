/-
  That calls answer what was found. No conditions.
-/
import Derived.Test.YtbjgjnkihdddlaaGreatDoorD
set_option maxRecDepth 1000000
namespace Go.Ab.Sh
open Go Go.Ab
theorem g41 : M41.good = true := by kernel_rfl
theorem r41 : M41.so (T1 40 M41.f M41.args M41.mem) = true := by kernel_rfl
end Go.Ab.Sh
