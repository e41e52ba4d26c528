/-
  That calls answer what was found. No conditions.
-/
import Derived.Test.YthlpkjlpdmfgiaaGreatDoorD
set_option maxRecDepth 1000000
namespace Go.Ab.Sh
open Go Go.Ab
theorem g0 : M0.good = true := by kernel_rfl
theorem r0 : M0.so (T0 1000 M0.f M0.args M0.mem) = true := by kernel_rfl
theorem g1 : M1.good = true := by kernel_rfl
theorem r1 : M1.so (T1 1000 M1.f M1.args M1.mem) = true := by kernel_rfl
theorem g2 : M2.good = true := by kernel_rfl
theorem r2 : M2.so (T0 1000 M2.f M2.args M2.mem) = true := by kernel_rfl
theorem g3 : M3.good = true := by kernel_rfl
theorem r3 : M3.so (T0 1000 M3.f M3.args M3.mem) = true := by kernel_rfl
theorem g4 : M4.good = true := by kernel_rfl
theorem r4 : M4.so (T0 1000 M4.f M4.args M4.mem) = true := by kernel_rfl
theorem g5 : M5.good = true := by kernel_rfl
theorem r5 : M5.so (T0 1000 M5.f M5.args M5.mem) = true := by kernel_rfl
theorem g6 : M6.good = true := by kernel_rfl
theorem r6 : M6.so (T0 1000 M6.f M6.args M6.mem) = true := by kernel_rfl
theorem g7 : M7.good = true := by kernel_rfl
theorem r7 : M7.so (T0 1000 M7.f M7.args M7.mem) = true := by kernel_rfl
end Go.Ab.Sh
