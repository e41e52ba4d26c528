/-
  The call returns true in every world in which the library has its variables. No conditions.
-/
import Derived.Test.YtchdjkidnjfcjaaGreatDoorG
import Derived.Test.YtchdjkidnjfcjaaGreatDoorK0
import Derived.Test.YtchdjkidnjfcjaaGreatDoorK1
import Derived.Test.YtchdjkidnjfcjaaGreatDoorK2
import Derived.Test.YtchdjkidnjfcjaaGreatDoorK3
import Derived.Test.YtchdjkidnjfcjaaGreatDoorK4
import Derived.Test.YtchdjkidnjfcjaaGreatDoorK5
import Derived.Test.YtchdjkidnjfcjaaGreatDoorK6
import Derived.Test.YtchdjkidnjfcjaaGreatDoorK7
import Derived.Test.YtchdjkidnjfcjaaGreatDoorK8
import Derived.Test.YtchdjkidnjfcjaaGreatDoorK9
import Derived.Test.YtchdjkidnjfcjaaGreatDoorK10
import Derived.Test.YtchdjkidnjfcjaaGreatDoorK11
import Derived.Test.YtchdjkidnjfcjaaGreatDoorKT
set_option maxRecDepth 1000000
namespace Go.Ab.Sh
open Go Go.Ab Go.Proofs
structure Facts (W : World) : Prop where
  mx : ∃ n, W.cell? ⟨2, 0, none⟩ = some (.int .i64 n)
  tab : Lib.TabIs Tryz.prog W "internal/strconv.uint64pow10" .u64 Lib.pow10Tab
  spc : Lib.TabIs Tryz.prog W "strings.asciiSpace" .u8 Lib.asciiSpaceTab
  err : ErrVars W
variable {W : World}
theorem okIndexF (F : Facts W) : OvSound Tryz.prog W Q14 := by obtain ⟨n, h⟩ := F.mx; exact okIndex h
theorem p0 (F : Facts W) : o0.All (OvSound Tryz.prog W) := (.n (.n (.n (.n (.n .e (.s (okFields F.spc) (.n (.n (.s (okAtoi F.err) .e .e) .e) .e) .e)) .e) (.n .e (.n (.n .e (.n (.s (okIndexByte) .e .e) .e)) .e))) (.n (.n (.n .e (.s (okItoa F.tab) (.n (.n (.s (okPu F.err) .e .e) .e) .e) .e)) .e) (.n (.n (.n .e (.n .e (.s (okNoEscape) .e .e))) .e) (.n (.n .e (.n (.s (okIndexF F) .e .e) .e)) .e)))) (.n (.n (.n (.n .e (.s (okJoin) .e .e)) .e) (.n .e (.n (.n .e (.n (.s (okHas) .e .e) .e)) .e))) (.n (.n .e (.n .e (.s (okCheck) .e .e))) (.n (.n .e (.n (.n (.n (.s (okCount) .e .e) .e) .e) .e)) (.n (.n .e (.n (.s (okIndexRune) .e .e) .e)) .e)))))
theorem q0 (F : Facts W) (n : Nat) : TabSound Tryz.prog W (T0 n) := shT_ok mixedOrders (ovTr_ok (p0 F)) n
theorem s0 (F : Facts W) : OvSound Tryz.prog W M0.ov := memo_ok (q0 F 40) g0 r0
theorem s1 (F : Facts W) : OvSound Tryz.prog W M1.ov := memo_ok (q0 F 40) g1 r1
theorem s2 (F : Facts W) : OvSound Tryz.prog W M2.ov := memo_ok (q0 F 40) g2 r2
theorem s4 (F : Facts W) : OvSound Tryz.prog W M4.ov := memo_ok (q0 F 40) g4 r4
theorem s5 (F : Facts W) : OvSound Tryz.prog W M5.ov := memo_ok (q0 F 40) g5 r5
theorem s8 (F : Facts W) : OvSound Tryz.prog W M8.ov := memo_ok (q0 F 40) g8 r8
theorem s9 (F : Facts W) : OvSound Tryz.prog W M9.ov := memo_ok (q0 F 40) g9 r9
theorem s10 (F : Facts W) : OvSound Tryz.prog W M10.ov := memo_ok (q0 F 40) g10 r10
theorem s11 (F : Facts W) : OvSound Tryz.prog W M11.ov := memo_ok (q0 F 40) g11 r11
theorem s12 (F : Facts W) : OvSound Tryz.prog W M12.ov := memo_ok (q0 F 40) g12 r12
theorem s13 (F : Facts W) : OvSound Tryz.prog W M13.ov := memo_ok (q0 F 40) g13 r13
theorem s14 (F : Facts W) : OvSound Tryz.prog W M14.ov := memo_ok (q0 F 40) g14 r14
theorem s15 (F : Facts W) : OvSound Tryz.prog W M15.ov := memo_ok (q0 F 40) g15 r15
theorem s16 (F : Facts W) : OvSound Tryz.prog W M16.ov := memo_ok (q0 F 40) g16 r16
theorem s17 (F : Facts W) : OvSound Tryz.prog W M17.ov := memo_ok (q0 F 40) g17 r17
theorem s18 (F : Facts W) : OvSound Tryz.prog W M18.ov := memo_ok (q0 F 40) g18 r18
theorem s19 (F : Facts W) : OvSound Tryz.prog W M19.ov := memo_ok (q0 F 40) g19 r19
theorem s20 (F : Facts W) : OvSound Tryz.prog W M20.ov := memo_ok (q0 F 40) g20 r20
theorem s21 (F : Facts W) : OvSound Tryz.prog W M21.ov := memo_ok (q0 F 40) g21 r21
theorem s22 (F : Facts W) : OvSound Tryz.prog W M22.ov := memo_ok (q0 F 40) g22 r22
theorem s23 (F : Facts W) : OvSound Tryz.prog W M23.ov := memo_ok (q0 F 40) g23 r23
theorem s24 (F : Facts W) : OvSound Tryz.prog W M24.ov := memo_ok (q0 F 40) g24 r24
theorem s25 (F : Facts W) : OvSound Tryz.prog W M25.ov := memo_ok (q0 F 40) g25 r25
theorem s26 (F : Facts W) : OvSound Tryz.prog W M26.ov := memo_ok (q0 F 40) g26 r26
theorem s27 (F : Facts W) : OvSound Tryz.prog W M27.ov := memo_ok (q0 F 40) g27 r27
theorem s28 (F : Facts W) : OvSound Tryz.prog W M28.ov := memo_ok (q0 F 40) g28 r28
theorem s29 (F : Facts W) : OvSound Tryz.prog W M29.ov := memo_ok (q0 F 40) g29 r29
theorem p1 (F : Facts W) : o1.All (OvSound Tryz.prog W) := (.n (.n (.n (.n (.n (.s (memos_s (s5 F) (memos_e)) .e .e) (.s (okFields F.spc) (.n (.n (.s (okAtoi F.err) .e .e) .e) .e) .e)) .e) (.n .e (.n (.n .e (.n (.s (okIndexByte) .e .e) .e)) .e))) (.n (.n (.n .e (.s (okItoa F.tab) (.n (.n (.s (okPu F.err) .e .e) .e) .e) .e)) .e) (.n (.n (.n .e (.n .e (.s (okNoEscape) .e .e))) .e) (.n (.n .e (.n (.s (okIndexF F) .e .e) .e)) .e)))) (.n (.n (.s (memos_s (s2 F) (memos_e)) (.n .e (.s (okJoin) .e .e)) .e) (.n .e (.n (.n .e (.n (.s (okHas) .e .e) .e)) .e))) (.n (.n .e (.n .e (.s (okCheck) .e .e))) (.n (.n .e (.n (.n (.n (.s (okCount) .e .e) .e) .e) .e)) (.n (.n .e (.n (.s (okIndexRune) .e .e) .e)) .e)))))
theorem q1 (F : Facts W) (n : Nat) : TabSound Tryz.prog W (T1 n) := shT_ok mixedOrders (ovTr_ok (p1 F)) n
theorem s3 (F : Facts W) : OvSound Tryz.prog W M3.ov := memo_ok (q1 F 40) g3 r3
theorem s6 (F : Facts W) : OvSound Tryz.prog W M6.ov := memo_ok (q1 F 40) g6 r6
theorem p2 (F : Facts W) : o2.All (OvSound Tryz.prog W) := (.n (.n (.n (.n (.n .e (.s (okFields F.spc) (.n (.n (.s (okAtoi F.err) .e .e) .e) .e) .e)) .e) (.n .e (.n (.n .e (.n (.s (okIndexByte) .e .e) .e)) .e))) (.n (.n (.n .e (.s (okItoa F.tab) (.n (.n (.s (okPu F.err) .e .e) .e) .e) .e)) .e) (.n (.n (.n .e (.n .e (.s (okNoEscape) .e .e))) .e) (.n (.n .e (.n (.s (okIndexF F) .e .e) .e)) .e)))) (.n (.n (.s (memos_s (s6 F) (memos_e)) (.n .e (.s (okJoin) .e .e)) .e) (.n .e (.n (.n .e (.n (.s (okHas) .e .e) .e)) .e))) (.n (.n .e (.n .e (.s (okCheck) .e .e))) (.n (.n .e (.n (.n (.n (.s (okCount) .e .e) .e) .e) .e)) (.n (.n .e (.n (.s (okIndexRune) .e .e) .e)) .e)))))
theorem q2 (F : Facts W) (n : Nat) : TabSound Tryz.prog W (T2 n) := shT_ok mixedOrders (ovTr_ok (p2 F)) n
theorem s7 (F : Facts W) : OvSound Tryz.prog W M7.ov := memo_ok (q2 F 40) g7 r7
theorem p3 (F : Facts W) : o3.All (OvSound Tryz.prog W) := (.n (.n (.n (.s (memos_s (s8 F) (memos_s (s9 F) (memos_e))) (.n .e (.s (okFields F.spc) (.n (.n (.s (okAtoi F.err) .e .e) .e) .e) .e)) .e) (.n .e (.n (.n .e (.n (.s (okIndexByte) .e .e) .e)) .e))) (.s (memos_s (s0 F) (memos_s (s1 F) (memos_s (s3 F) (memos_s (s7 F) (memos_s (s10 F) (memos_s (s11 F) (memos_s (s12 F) (memos_s (s13 F) (memos_s (s14 F) (memos_s (s15 F) (memos_s (s16 F) (memos_s (s17 F) (memos_s (s18 F) (memos_s (s19 F) (memos_s (s20 F) (memos_s (s21 F) (memos_s (s22 F) (memos_s (s23 F) (memos_s (s24 F) (memos_s (s25 F) (memos_s (s26 F) (memos_s (s27 F) (memos_s (s28 F) (memos_e)))))))))))))))))))))))) (.n (.n .e (.s (okItoa F.tab) (.n (.n (.s (okPu F.err) .e .e) .e) .e) .e)) .e) (.n (.n (.n .e (.n .e (.s (okNoEscape) .e .e))) .e) (.n (.n .e (.n (.s (okIndexF F) .e .e) .e)) .e)))) (.n (.n (.n (.n .e (.s (okJoin) .e .e)) .e) (.n .e (.n (.n .e (.n (.s (okHas) .e .e) .e)) .e))) (.s (memos_s (s4 F) (memos_s (s29 F) (memos_e))) (.n .e (.n .e (.s (okCheck) .e .e))) (.n (.n .e (.n (.n (.n (.s (okCount) .e .e) .e) .e) .e)) (.n (.n .e (.n (.s (okIndexRune) .e .e) .e)) .e)))))
theorem q3 (F : Facts W) (n : Nat) : TabSound Tryz.prog W (T3 n) := shT_ok mixedOrders (ovTr_ok (p3 F)) n
theorem runs (F : Facts W) : Calls Tryz.prog 3 #[] W fun e w' => e = .returned (.bool true) ∧ RowKit.Below W.heap.size W w' := by
  obtain ⟨m, hm⟩ := top
  exact closed_calls (q3 F 40) (fn := Tryz.f3) Tryz.func3 rfl rfl rfl hm (fun φ cv h => vrel_bool h)
end Go.Ab.Sh
