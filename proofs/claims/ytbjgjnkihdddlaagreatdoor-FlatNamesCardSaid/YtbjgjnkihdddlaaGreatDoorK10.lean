/-
  That calls answer what was found. No conditions.
-/
import Derived.Test.YtbjgjnkihdddlaaGreatDoorD
set_option maxRecDepth 1000000
namespace Go.Ab.Sh
open Go Go.Ab
theorem g31 : M31.good = true := by kernel_rfl
theorem r31 : M31.so (T0 40 M31.f M31.args M31.mem) = true := by kernel_rfl
theorem g32 : M32.good = true := by kernel_rfl
theorem r32 : M32.so (T0 40 M32.f M32.args M32.mem) = true := by kernel_rfl
theorem g33 : M33.good = true := by kernel_rfl
theorem r33 : M33.so (T0 40 M33.f M33.args M33.mem) = true := by kernel_rfl
theorem g34 : M34.good = true := by kernel_rfl
theorem r34 : M34.so (T0 40 M34.f M34.args M34.mem) = true := by kernel_rfl
theorem g35 : M35.good = true := by kernel_rfl
theorem r35 : M35.so (T0 40 M35.f M35.args M35.mem) = true := by kernel_rfl
theorem g36 : M36.good = true := by kernel_rfl
theorem r36 : M36.so (T0 40 M36.f M36.args M36.mem) = true := by kernel_rfl
theorem g37 : M37.good = true := by kernel_rfl
theorem r37 : M37.so (T0 40 M37.f M37.args M37.mem) = true := by kernel_rfl
theorem g38 : M38.good = true := by kernel_rfl
theorem r38 : M38.so (T0 40 M38.f M38.args M38.mem) = true := by kernel_rfl
theorem g39 : M39.good = true := by kernel_rfl
theorem r39 : M39.so (T0 40 M39.f M39.args M39.mem) = true := by kernel_rfl
theorem g40 : M40.good = true := by kernel_rfl
theorem r40 : M40.so (T0 40 M40.f M40.args M40.mem) = true := by kernel_rfl
end Go.Ab.Sh
