/-
  That calls answer what was found. No conditions.
-/
import Derived.Test.YtchdjkidnjfcjaaGreatDoorD
set_option maxRecDepth 1000000
namespace Go.Ab.Sh
open Go Go.Ab
theorem g24 : M24.good = true := by kernel_rfl
theorem r24 : M24.so (T0 40 M24.f M24.args M24.mem) = true := by kernel_rfl
theorem g25 : M25.good = true := by kernel_rfl
theorem r25 : M25.so (T0 40 M25.f M25.args M25.mem) = true := by kernel_rfl
theorem g26 : M26.good = true := by kernel_rfl
theorem r26 : M26.so (T0 40 M26.f M26.args M26.mem) = true := by kernel_rfl
theorem g27 : M27.good = true := by kernel_rfl
theorem r27 : M27.so (T0 40 M27.f M27.args M27.mem) = true := by kernel_rfl
theorem g28 : M28.good = true := by kernel_rfl
theorem r28 : M28.so (T0 40 M28.f M28.args M28.mem) = true := by kernel_rfl
end Go.Ab.Sh
