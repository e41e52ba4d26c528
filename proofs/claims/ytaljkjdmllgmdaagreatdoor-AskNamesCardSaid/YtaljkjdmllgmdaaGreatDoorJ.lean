/-
  Facts of the row about the program: what the call reaches. No conditions.
-/
import Derived.Test.YtaljkjdmllgmdaaGreatDoorRows
import Derived.ProofKit
import Derived.SevenTiedAt
set_option linter.unusedVariables false
namespace Go.Proofs.YtaljkjdmllgmdaaGreatDoor
set_option maxRecDepth 100000
theorem u_lk (P : Program) (g : Nat) : P.funcs[g]? = P.funcs.toList[g]? := Array.getElem?_toList.symm
def u_clo (P : Program) (l : List Func) : Nat → List FuncId → List FuncId → Nat → List FuncId
  | 0, _, seen, _ => seen.reverse
  | _ + 1, [], seen, _ => seen.reverse
  | n + 1, f :: todo, seen, k => match k.testBit f with
    | true => u_clo P l n todo seen k
    | false => u_clo P l n ((l[f]?).elim [] P.leadsTo ++ todo) (f :: seen) (k ||| 1 <<< f)
theorem u_clo_eq (P : Program) : ∀ (n : Nat) (todo seen : List FuncId) (k : Nat), (∀ f, seen.contains f = k.testBit f) → P.closureVia n todo seen = u_clo P P.funcs.toList n todo seen k
  | 0, _, _, _, _ => by unfold Program.closureVia u_clo; rfl
  | n + 1, [], _, _, _ => by unfold Program.closureVia u_clo; rfl
  | n + 1, f :: todo, seen, k, h => by
    unfold Program.closureVia u_clo
    rw [h f]
    cases hb : k.testBit f with
    | true => exact u_clo_eq P n todo seen k h
    | false =>
      rw [← u_lk]
      exact u_clo_eq P n _ (f :: seen) _ fun g => by
        rw [List.contains_cons, h g, Nat.testBit_or, Nat.one_shiftLeft, Nat.testBit_two_pow, Bool.or_comm]
        congr 1
        by_cases e : g = f
        · subst e; simp
        · simp [e, Ne.symm e]
def u_C : List FuncId := [3,4,5,16,50,120,210,121,51,54,122,211,55,123,124,125,129,213,53,212,133,222,328,218,327,457,456,323,214,127,215,126,324,216,325,128,217,326,52,130,134,131,219,220,132,221,135,136,223,329,224,56,17,57,137,225,207,150,249,250,400,154,153,399,507,226,330,458,334,459,233,460,235,461,237,462,239,331,333,464,463,332,335,336,465,466,569,91,231,340,337,338,468,467,293,294,431,429,430,65,156,546,339,341,342,343,344,470,469,345,471,570,472,346,347,474,473,348,475,571,476,349,350,477,572,351,479,478,352,353,480,481,574,573,482,354,355,483,575,86,484,485,69,161,257,319,320,209,452,453,321,322,454,455,567,568,138,227,139,228,356,357,358,359,360,361,362,363,364,365,366,367,368,369,117,370,371,372,373,374,375,376,377,378,379,380,229,382,495,381,486,492,581,487,576,488,577,578,489,579,580,636,490,491,493,494,230,384,244,397,506,383,496,582,583,637,665,232,386,385,497,584,585,638,666,234,388,387,498,586,587,639,667,236,390,389,499,588,589,640,668,238,392,391,500,590,591,641,669,240,393,501,502,592,642,241,314,395,503,282,423,394,140,243,242,396,504,505,593,643,141,58,59,142,60,143,144,145,146,147,245,11,43,46,107,83,66,108,204,203,313,446,552,553,621,554,555,622,623,657,556,557,558,559,315,316,447,448,560,561,563,562,564,624,565,115,625,658,681,682,693,683,684,694,695,697,685,686,687,688,626,659,413,520,660,661,627,317,449,566,628,629,662,630,631,663,664,689,632,633,634,635,450,451,44,109,110,205,318,206,111,78,79,30,72,164,260,165,261,73,74,112,45,113,114,208,47,116,118,6,8,18,61,148,246,247,398,149,248,19,20,21,62,151,152,22,23,24,63,155,31,64,68,159,252,162,258,259,160,253,403,254,255,404,256,25,67,157,158,251,401,402,26,27,28,29,70,71,163,9,32,75,76,77,33,38,82,174,173,92,39,93,40,94,13,176,271,200,415,303,196,300,416,417,195,197,301,302,104,175,177,178,272,405,100,191,295,296,432,283,425,424,418,193,433,434,435,547,609,652,672,673,690,674,675,691,692,696,676,677,678,679,610,611,653,548,297,436,437,101,102,194,298,439,438,549,299,440,441,550,612,618,613,654,614,615,655,656,680,616,617,619,620,442,41,103,192,273,274,419,509,596,522,523,525,524,527,526,510,275,276,420,528,199,601,443,551,647,646,670,602,649,648,671,277,278,279,421,529,280,422,530,531,603,532,533,604,605,650,534,535,536,537,281,284,426,411,270,288,285,427,538,539,606,540,541,607,608,651,542,543,544,545,286,287,95,179,180,181,289,292,290,428,96,97,184,185,186,182,291,183,188,189,187,98,190,99,42,105,198,304,444,445,306,305,307,308,309,15,48,119,49,106,201,202,310,311,312,34,80,166,171,262,263,406,508,594,595,408,644,264,407,511,90,265,266,409,410,267,412,512,513,597,514,515,598,599,645,516,517,518,519,268,414,521,600,269,167,168,169,170,81,172,35,85,84,36,87,89,88,37,7,14,12,10]
theorem u_fuel : (Tryz.prog.funcs.toList.map fun g => (Tryz.prog.leadsTo g).length + 1).sum = 2234 := by kernel_rfl
theorem u_cl : Tryz.prog.closure 3 = u_C := by
  unfold Program.closure
  rw [u_clo_eq _ _ _ _ 0 (by simp), u_fuel]
  kernel_rfl
theorem j_inPlace : Tryz.prog.inPlace 3 = Rows.askNamesRow.inPlace := by
  unfold Program.inPlace
  rw [u_cl]
  simp only [u_lk]
  kernel_rfl
theorem j_named : Tryz.prog.varsNamed 3 = Rows.askNamesRow.named := by
  unfold Program.varsNamed
  rw [u_cl]
  simp only [u_lk]
  kernel_rfl
theorem j_unf : Tryz.prog.unfollowed 3 = Rows.askNamesRow.unfollowed := by
  unfold Program.unfollowed
  rw [u_cl]
  simp only [u_lk]
  kernel_rfl
theorem j_rec : Tryz.prog.recurses 3 = Rows.askNamesRow.recurses := by
  unfold Program.recurses
  rw [j_unf]
  rfl
end Go.Proofs.YtaljkjdmllgmdaaGreatDoor
