-- Written by a program of this session (wip/tools/myprint.py, over the kit's print).
import Derived.Test.YtccjefoejjnccaaC0
import Derived.Test.YtccjefoejjnccaaZ
namespace Go.Proofs.Ytccjefoejjnccaa.C
open Go.RowKit Go.Proofs.YtccjefoejjnccaaW.PrintWords Go.Proofs.YtccjefoejjnccaaW.PrintLast Go.Proofs.YtccjefoejjnccaaW.PrintMore
attribute [local go_sem] max2_int min2_int max_two min_two max_three min_three max_four min_four   -- for this text's walks alone
set_option linter.unusedVariables false
set_option linter.unusedSimpArgs false
def agonicref05_segment.f (l0 : List (S54)) (a1 : Int) : Option (Int × Int × Int × Int) := if (wrap64 (a1 + 1)) < (l0.length : Int) then (if 0 ≤ a1 then (if a1 < (l0.length : Int) then (if 0 ≤ (wrap64 (a1 + 1)) then (some ((rd_T54 l0 a1).f0, (rd_T54 l0 a1).f1, (rd_T54 l0 (wrap64 (a1 + 1))).f0, (rd_T54 l0 (wrap64 (a1 + 1))).f1)) else (none)) else (none)) else (none)) else (if 0 ≤ a1 then (if a1 < (l0.length : Int) then (if 0 < (l0.length : Int) then (some ((rd_T54 l0 a1).f0, (rd_T54 l0 a1).f1, wrap64 (((rd_T54 l0 0).f0) + 3600), (rd_T54 l0 0).f1)) else (none)) else (none)) else (none))
def agonicref01_Divisor.l0 : Nat → Int → Int → Option (Int)
 | 0, _, _ => none
 | k + 1, x0, x1 => if x1 > 0 then (if x1 = 0 then (none) else (agonicref01_Divisor.l0 k x1 (Int.tmod x0 x1))) else (some x0)
def agonicref01_Divisor.f (k : Nat) (a0 : Int) (a1 : Int) : Option (Int) := agonicref01_Divisor.l0 k (mx a0 (wrap64 (-a0))) (mx a1 (wrap64 (-a1)))
def agonicref01_Reduced.f (k : Nat) (a0 : Int) (a1 : Int) : Option (Int × Int) := if a1 < 0 then ((agonicref01_Divisor.f k (wrap64 (-a0)) (wrap64 (-a1))).bind fun t197 => (if t197 = 0 then (none) else (some (wrap64 (Int.tdiv (wrap64 (-a0)) t197), wrap64 (Int.tdiv (wrap64 (-a1)) t197))))) else ((agonicref01_Divisor.f k a0 a1).bind fun t198 => (if t198 = 0 then (none) else (some (wrap64 (Int.tdiv a0 t198), wrap64 (Int.tdiv a1 t198)))))
def agonicref01_Less.f (a0_0 : Int) (a0_1 : Int) (a1_0 : Int) (a1_1 : Int) : Option (Bool) := some (decide ((wrap64 (a0_0 * a1_1)) < (wrap64 (a1_0 * a0_1))))
end Go.Proofs.Ytccjefoejjnccaa.C
