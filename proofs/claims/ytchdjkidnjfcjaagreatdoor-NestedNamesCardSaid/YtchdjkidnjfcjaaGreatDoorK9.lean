/-
  That calls answer what was found. No conditions.
-/
import Derived.Test.YtchdjkidnjfcjaaGreatDoorD
set_option maxRecDepth 1000000
namespace Go.Ab.Sh
open Go Go.Ab
theorem g0 : M0.good = true := by kernel_rfl
theorem r0 : M0.so (T0 40 M0.f M0.args M0.mem) = true := by kernel_rfl
theorem g1 : M1.good = true := by kernel_rfl
theorem r1 : M1.so (T0 40 M1.f M1.args M1.mem) = true := by kernel_rfl
theorem g10 : M10.good = true := by kernel_rfl
theorem r10 : M10.so (T0 40 M10.f M10.args M10.mem) = true := by kernel_rfl
theorem g11 : M11.good = true := by kernel_rfl
theorem r11 : M11.so (T0 40 M11.f M11.args M11.mem) = true := by kernel_rfl
theorem g12 : M12.good = true := by kernel_rfl
theorem r12 : M12.so (T0 40 M12.f M12.args M12.mem) = true := by kernel_rfl
theorem g13 : M13.good = true := by kernel_rfl
theorem r13 : M13.so (T0 40 M13.f M13.args M13.mem) = true := by kernel_rfl
theorem g14 : M14.good = true := by kernel_rfl
theorem r14 : M14.so (T0 40 M14.f M14.args M14.mem) = true := by kernel_rfl
theorem g15 : M15.good = true := by kernel_rfl
theorem r15 : M15.so (T0 40 M15.f M15.args M15.mem) = true := by kernel_rfl
end Go.Ab.Sh
