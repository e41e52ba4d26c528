/-
  That calls answer what was found. No conditions.
-/
import Derived.Test.YtchdjkidnjfcjaaGreatDoorD
set_option maxRecDepth 1000000
namespace Go.Ab.Sh
open Go Go.Ab
theorem g16 : M16.good = true := by kernel_rfl
theorem r16 : M16.so (T0 40 M16.f M16.args M16.mem) = true := by kernel_rfl
theorem g17 : M17.good = true := by kernel_rfl
theorem r17 : M17.so (T0 40 M17.f M17.args M17.mem) = true := by kernel_rfl
theorem g18 : M18.good = true := by kernel_rfl
theorem r18 : M18.so (T0 40 M18.f M18.args M18.mem) = true := by kernel_rfl
theorem g19 : M19.good = true := by kernel_rfl
theorem r19 : M19.so (T0 40 M19.f M19.args M19.mem) = true := by kernel_rfl
theorem g20 : M20.good = true := by kernel_rfl
theorem r20 : M20.so (T0 40 M20.f M20.args M20.mem) = true := by kernel_rfl
theorem g21 : M21.good = true := by kernel_rfl
theorem r21 : M21.so (T0 40 M21.f M21.args M21.mem) = true := by kernel_rfl
theorem g22 : M22.good = true := by kernel_rfl
theorem r22 : M22.so (T0 40 M22.f M22.args M22.mem) = true := by kernel_rfl
theorem g23 : M23.good = true := by kernel_rfl
theorem r23 : M23.so (T0 40 M23.f M23.args M23.mem) = true := by kernel_rfl
end Go.Ab.Sh
