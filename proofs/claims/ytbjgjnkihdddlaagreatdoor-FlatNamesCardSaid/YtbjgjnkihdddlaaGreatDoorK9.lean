/-
  That calls answer what was found. No conditions.
-/
import Derived.Test.YtbjgjnkihdddlaaGreatDoorD
set_option maxRecDepth 1000000
namespace Go.Ab.Sh
open Go Go.Ab
theorem g19 : M19.good = true := by kernel_rfl
theorem r19 : M19.so (T0 40 M19.f M19.args M19.mem) = true := by kernel_rfl
theorem g20 : M20.good = true := by kernel_rfl
theorem r20 : M20.so (T0 40 M20.f M20.args M20.mem) = true := by kernel_rfl
theorem g21 : M21.good = true := by kernel_rfl
theorem r21 : M21.so (T0 40 M21.f M21.args M21.mem) = true := by kernel_rfl
theorem g22 : M22.good = true := by kernel_rfl
theorem r22 : M22.so (T0 40 M22.f M22.args M22.mem) = true := by kernel_rfl
theorem g23 : M23.good = true := by kernel_rfl
theorem r23 : M23.so (T0 40 M23.f M23.args M23.mem) = true := by kernel_rfl
theorem g24 : M24.good = true := by kernel_rfl
theorem r24 : M24.so (T0 40 M24.f M24.args M24.mem) = true := by kernel_rfl
theorem g25 : M25.good = true := by kernel_rfl
theorem r25 : M25.so (T0 40 M25.f M25.args M25.mem) = true := by kernel_rfl
theorem g26 : M26.good = true := by kernel_rfl
theorem r26 : M26.so (T0 40 M26.f M26.args M26.mem) = true := by kernel_rfl
theorem g27 : M27.good = true := by kernel_rfl
theorem r27 : M27.so (T0 40 M27.f M27.args M27.mem) = true := by kernel_rfl
theorem g28 : M28.good = true := by kernel_rfl
theorem r28 : M28.so (T0 40 M28.f M28.args M28.mem) = true := by kernel_rfl
theorem g29 : M29.good = true := by kernel_rfl
theorem r29 : M29.so (T0 40 M29.f M29.args M29.mem) = true := by kernel_rfl
theorem g30 : M30.good = true := by kernel_rfl
theorem r30 : M30.so (T0 40 M30.f M30.args M30.mem) = true := by kernel_rfl
end Go.Ab.Sh
