/-
  Facts of the row about the program: what the call reaches. No conditions.
-/
import Derived.Test.YtbpkpklaegnkiaaGreatDoorRows
import Derived.ProofKit
import Derived.SevenTiedAt
set_option linter.unusedVariables false
namespace Go.Proofs.YtbpkpklaegnkiaaGreatDoor
set_option maxRecDepth 100000
theorem u_lk (P : Program) (g : Nat) : P.funcs[g]? = P.funcs.toList[g]? := Array.getElem?_toList.symm
def u_clo (P : Program) (l : List Func) : Nat → List FuncId → List FuncId → Nat → List FuncId
  | 0, _, seen, _ => seen.reverse
  | _ + 1, [], seen, _ => seen.reverse
  | n + 1, f :: todo, seen, k => match k.testBit f with
    | true => u_clo P l n todo seen k
    | false => u_clo P l n ((l[f]?).elim [] P.leadsTo ++ todo) (f :: seen) (k ||| 1 <<< f)
theorem u_clo_eq (P : Program) : ∀ (n : Nat) (todo seen : List FuncId) (k : Nat), (∀ f, seen.contains f = k.testBit f) → P.closureVia n todo seen = u_clo P P.funcs.toList n todo seen k
  | 0, _, _, _, _ => by unfold Program.closureVia u_clo; rfl
  | n + 1, [], _, _, _ => by unfold Program.closureVia u_clo; rfl
  | n + 1, f :: todo, seen, k, h => by
    unfold Program.closureVia u_clo
    rw [h f]
    cases hb : k.testBit f with
    | true => exact u_clo_eq P n todo seen k h
    | false =>
      rw [← u_lk]
      exact u_clo_eq P n _ (f :: seen) _ fun g => by
        rw [List.contains_cons, h g, Nat.testBit_or, Nat.one_shiftLeft, Nat.testBit_two_pow, Bool.or_comm]
        congr 1
        by_cases e : g = f
        · subst e; simp
        · simp [e, Ne.symm e]
def u_C : List FuncId := [3,4,7,31,50,87,162,88,51,54,89,163,55,90,91,92,96,165,53,164,100,174,243,170,242,362,361,238,166,94,167,93,239,168,240,95,169,241,52,97,101,98,171,172,99,173,102,103,175,244,176,56,32,57,104,177,202,73,145,146,230,77,76,229,358,178,245,363,249,364,185,365,187,366,189,367,191,246,248,369,368,247,250,251,370,371,472,204,183,256,252,253,373,372,254,374,473,375,376,39,79,474,255,257,258,259,260,378,377,261,379,475,380,262,263,382,381,264,383,476,384,265,266,385,477,267,387,386,268,269,388,389,479,478,390,270,271,391,480,137,392,393,27,48,86,158,159,234,233,235,160,161,236,237,359,360,105,179,106,180,272,273,274,275,276,277,278,279,280,281,282,283,284,285,125,286,287,288,289,290,291,292,293,294,295,296,181,298,403,297,394,400,486,395,481,396,482,483,397,484,485,558,398,399,401,402,182,300,196,315,415,299,404,487,488,559,620,184,302,301,405,489,490,560,621,186,304,303,406,491,492,561,622,188,306,305,407,493,494,562,623,190,308,307,408,495,496,563,624,192,309,409,410,497,564,193,311,312,411,313,412,310,107,195,194,314,413,414,498,565,108,58,59,109,60,110,111,112,113,114,197,33,61,64,115,134,40,116,199,198,316,416,499,500,566,501,502,567,568,625,503,504,505,506,317,318,417,418,507,508,510,509,511,569,512,123,570,626,655,656,675,657,658,676,677,689,659,660,661,662,571,627,470,556,628,629,572,319,419,513,573,574,630,575,576,631,632,663,577,578,579,580,420,421,62,117,118,200,320,201,119,28,30,21,43,83,154,84,155,44,45,120,63,121,122,203,65,124,126,8,5,9,35,71,142,143,228,72,144,10,11,12,36,74,75,13,14,15,37,78,22,38,41,80,147,82,152,153,81,148,231,149,150,232,151,16,25,46,47,85,156,157,17,18,19,20,42,29,49,34,6,23,24,26,66,127,133,227,226,205,128,206,129,207,223,322,422,344,514,581,534,608,515,516,450,535,609,458,447,321,323,324,423,462,213,337,444,445,528,433,523,522,517,340,529,530,531,606,641,670,680,681,690,682,683,691,692,693,684,685,686,687,642,643,671,607,446,532,533,214,339,341,448,537,536,610,449,538,539,611,644,650,645,672,646,647,673,674,688,648,649,651,652,540,434,524,338,424,425,518,545,615,582,583,585,584,587,586,546,426,427,519,588,343,633,541,612,665,664,678,634,667,666,679,428,429,430,520,589,431,521,590,591,635,592,593,636,637,668,594,595,596,597,432,435,525,468,357,439,436,526,598,599,638,600,601,639,640,669,602,603,604,605,437,438,208,325,326,327,440,443,441,527,209,210,330,331,332,328,442,329,334,335,333,211,336,212,130,215,342,451,542,543,453,452,454,455,456,216,345,457,346,217,347,348,459,460,461,67,131,218,224,349,350,463,544,613,614,465,653,351,464,547,141,352,353,466,467,354,469,548,549,616,550,551,617,618,654,552,553,554,555,355,471,557,619,356,219,220,221,222,132,225,68,136,135,69,138,140,139,70]
theorem u_fuel : (Tryz.prog.funcs.toList.map fun g => (Tryz.prog.leadsTo g).length + 1).sum = 2170 := by kernel_rfl
theorem u_cl : Tryz.prog.closure 3 = u_C := by
  unfold Program.closure
  rw [u_clo_eq _ _ _ _ 0 (by simp), u_fuel]
  kernel_rfl
theorem j_inPlace : Tryz.prog.inPlace 3 = Rows.askBackUptoRow.inPlace := by
  unfold Program.inPlace
  rw [u_cl]
  simp only [u_lk]
  kernel_rfl
theorem j_named : Tryz.prog.varsNamed 3 = Rows.askBackUptoRow.named := by
  unfold Program.varsNamed
  rw [u_cl]
  simp only [u_lk]
  kernel_rfl
theorem j_unf : Tryz.prog.unfollowed 3 = Rows.askBackUptoRow.unfollowed := by
  unfold Program.unfollowed
  rw [u_cl]
  simp only [u_lk]
  kernel_rfl
theorem j_rec : Tryz.prog.recurses 3 = Rows.askBackUptoRow.recurses := by
  unfold Program.recurses
  rw [j_unf]
  rfl
end Go.Proofs.YtbpkpklaegnkiaaGreatDoor
