/-
  What calls were found to answer. No conditions.
-/
import Derived.Test.YtoahkkdbdiamcaaGreatDoorT
import Derived.Test.YtoahkkdbdiamcaaGreatDoorAb5
import Derived.Test.YtoahkkdbdiamcaaGreatDoorB2
import Derived.Lib.Index
import Derived.Lib.Bytealg
import Derived.KernelRfl
set_option linter.unusedVariables false
set_option maxRecDepth 1000000
namespace Go.Ab.Sh
open Go Go.Ab
noncomputable section
def Q4n : Over := ovCmp Qbk Lib.compareBytes
def Q11w : Over := ovAdd64 Q1fd
def Q15l : Over := ovBIte
def Q19a : Over := ovBMk
def Q11x : Over := ovBGive
def Q15m : Over := ovBTop
def Qyz : Over := ovBCheck
def Q15n : Over := ovBVar
def M0 : Memo := ⟨Qsr, [], [], 0, (.bool true), [], 0⟩
def o0 : Tr Over := (.node none (.node none (.node none .nil (.node none .nil (.node none (.node none (.node (some Qyz) .nil .nil) (.node none (.node none (.node (some Q15l) .nil .nil) .nil) .nil)) .nil))) (.node none (.node none (.node none .nil (.node none (.node (some Q11w) (.node none .nil (.node (some Q4n) .nil .nil)) .nil) .nil)) .nil) .nil)) (.node none (.node none .nil (.node none (.node none (.node none (.node none .nil (.node none (.node (some Q19a) .nil .nil) .nil)) .nil) .nil) (.node none (.node none .nil (.node none (.node (some Q15m) .nil .nil) .nil)) .nil))) (.node none (.node none .nil (.node none (.node none (.node none .nil (.node (some Q15n) .nil .nil)) (.node none (.node none (.node (some Q11x) .nil .nil) .nil) .nil)) .nil)) .nil)))
def T0 : Nat → Tab := shT fns (ovTr o0) 18446744073709551616
def o1 : Tr Over := (.node none (.node none (.node none .nil (.node none .nil (.node none (.node none (.node (some Qyz) .nil .nil) (.node none (.node none (.node (some Q15l) .nil .nil) .nil) .nil)) .nil))) (.node none (.node none (.node none .nil (.node none (.node (some Q11w) (.node none .nil (.node (some Q4n) .nil .nil)) .nil) .nil)) .nil) .nil)) (.node none (.node (some (memos [M0])) .nil (.node none (.node none (.node none (.node none .nil (.node none (.node (some Q19a) .nil .nil) .nil)) .nil) .nil) (.node none (.node none .nil (.node none (.node (some Q15m) .nil .nil) .nil)) .nil))) (.node none (.node none .nil (.node none (.node none (.node none .nil (.node (some Q15n) .nil .nil)) (.node none (.node none (.node (some Q11x) .nil .nil) .nil) .nil)) .nil)) .nil)))
def T1 : Nat → Tab := shT fns (ovTr o1) 18446744073709551616
end
end Go.Ab.Sh
