/-
  Names of functions and types of the program. No conditions.
-/
import Derived.Test.YtjnfcoeninejbaaGreatDoorAb5
import Derived.KernelRfl
import Derived.Test.YtjnfcoeninejbaaGreatDoorProg
set_option linter.unusedVariables false
set_option maxRecDepth 100000
namespace Go.Ab.Sh
open Go Go.Ab
noncomputable section
abbrev V := Value
abbrev M := Mem
abbrev R := Option Rs
abbrev J0 := M → R
abbrev J1 := V → J0
abbrev J2 := V → J1
abbrev J3 := V → J2
abbrev J4 := V → J3
abbrev J5 := V → J4
abbrev J6 := V → J5
abbrev J7 := V → J6
abbrev J8 := V → J7
abbrev J9 := V → J8
abbrev En := Entry Go.Proofs.Tryz.prog
abbrev ef (G : Gt) (f : Func) (l : List V) (m : M) : R := evFn Go.Proofs.Tryz.prog G.tab G.rds (drOf Go.Proofs.Tryz.prog G.tab) f l m
def Q21 : Nat := 3
def Q7j : Nat := 4
def Q25 : Nat := 5
def Qee : Nat := 6
def Q3m : Nat := 7
def Qbo : Nat := 8
def Q2f : Nat := 9
def Q9s : Nat := 10
def Qt : Nat := 11
def Q2m : Nat := 12
def Q86 : Nat := 13
def Qbm : Nat := 14
def Qe9 : Nat := 15
def Q87 : Nat := 16
def Qbn : Nat := 17
def Q4f : Nat := 18
def Q3y : Nat := 19
def Qdc : Nat := 20
def Q1k : Nat := 21
def Q5t : Nat := 22
def Q9z : Nat := 23
def Q31 : Nat := 24
def Q6e : Nat := 25
def Q4y : Nat := 26
def Q3o : Nat := 27
def Q1m : Nat := 28
def Q1n : Nat := 29
def Q80 : Nat := 30
def Q6 : Nat := 31
def Q4x : Nat := 32
def Q13 : Nat := 33
def Q10 : Nat := 34
def Q7p : Nat := 35
def Q7o : Nat := 36
def Q5k : Nat := 37
def Q6f : Nat := 38
def Qi : Nat := 39
def Q3n : Nat := 40
def Q6v : Nat := 41
def Q5v : Nat := 42
def Q72 : Nat := 43
def Q1s : Nat := 44
def Q1 : Nat := 45
def Q26 : Nat := 46
def Q5i : Nat := 47
def Qx : Nat := 48
def Q8g : Nat := 49
def Q1u : Nat := 50
def Q2z : Nat := 51
def Q5b : Nat := 52
def Qed : Nat := 53
def Q2d : Nat := 54
def Q32 : Nat := 55
def Q9 : Nat := 56
def Q2c : Nat := 60
def Q3b : Nat := 61
def Q17 : Nat := 62
def Q6g : Nat := 63
def Q4t : Nat := 67
def Q2b : Nat := 68
def Q2s : Nat := 69
def Q16 : Nat := 70
def Q2l : Nat := 71
def Qio : Nat := 72
def Q8f : Nat := 73
def Qco : Nat := 74
def Q5h : Nat := 75
def Q4v : Nat := 76
def Qfu : Nat := 77
def Qek : Nat := 78
def Q4c : Nat := 79
def Qdu : Nat := 80
def Q4w : Nat := 86
def Q9u : Nat := 89
def Q1a : Nat := 93
def Q1c : Nat := 94
def Q7z : Nat := 104
def T_ : Nat := 0
def Qgq : Nat := 3
def Qlm : Nat := 4
def Qe5 : Nat := 5
def Q4 : Nat := 9
def Q2 : Nat := 25
def Qe : Nat := 27
def Q78 : Nat := 29
def Q3 : Nat := 32
def Q12 : Nat := 34
def Q7k : Nat := 37
def Qb : Nat := 41
def Qhd : Nat := 51
def Qf8 : Nat := 53
def Qd2 : Nat := 54
def Qgy : Nat := 112
def Qh : Nat := 133
def Q0 : List Value := [(.int .u8 0), (.string ⟨#[]⟩), (.string ⟨#[]⟩), (.string ⟨#[]⟩), (.int .u8 0), (.bool false), (.int .i64 0), (.int .u32 0), (.int .i64 0), (.int .u32 0), (.int .i64 0), (.int .u32 0), (.int .u32 0), (.int .u32 0), (.int .u32 0), (.int .u32 0), (.int .u32 0), (.int .u8 0), (.int .u16 0), (.int .u16 0), (.int .i64 0), (.int .u32 0)]
def Qj : List Value := [(.int .u8 0), (.string ⟨#[]⟩), (.string ⟨#[]⟩), (.string ⟨#[]⟩), (.int .u8 0), (.bool false), (.int .i64 0), (.int .u32 0), (.int .i64 0), (.int .u32 0), (.int .i64 0), (.int .u32 0), (.int .u32 0), (.int .u32 0), (.int .u32 0), (.int .u32 0), (.int .u32 0), (.int .u8 0), (.int .u16 0), (.int .u16 0), (.int .i64 0), (.int .u32 0)]
def Qc : List Value := [(.int .u32 0), (.int .u32 0)]
def Q7 : List Value := [(.int .u32 0), (.int .u32 0), (.int .u8 0), (.int .u16 0), (.int .u16 0)]
def Q61 : List Value := [(.bool false), (.int .i64 0), (.int .u32 0), (.int .i64 0), (.int .u32 0), (.int .i64 0), (.int .u32 0), (.int .u32 0), (.int .u32 0), (.int .u32 0)]
def Qj1 : List Value := [(.int .u64 0), (.int .u64 0)]
def Q5 : List Value := [(.int .u32 0), (.int .i64 0)]
def Qgz : List Value := [(.string ⟨#[]⟩), (.string ⟨#[]⟩), (.string ⟨#[]⟩), (.string ⟨#[]⟩)]
end
end Go.Ab.Sh
