-- Written by a program of this session (wip/tools/myprint.py, over the kit's print).
import Derived.Test.YtccjefoejjnccaaC0
import Derived.Test.YtccjefoejjnccaaC6
import Derived.Test.YtccjefoejjnccaaZ
namespace Go.Proofs.Ytccjefoejjnccaa.C
open Go.RowKit Go.Proofs.YtccjefoejjnccaaW.PrintWords Go.Proofs.YtccjefoejjnccaaW.PrintLast Go.Proofs.YtccjefoejjnccaaW.PrintMore
attribute [local go_sem] max2_int min2_int max_two min_two max_three min_three max_four min_four   -- for this text's walks alone
set_option linter.unusedVariables false
set_option linter.unusedSimpArgs false
mutual
def agonicref05_Check.l0 : Nat → List (S54) → Int → Option (Int)
 | 0, _, _ => none
 | k + 1, x0, x3 => if x3 < (x0.length : Int) then (if 0 ≤ x3 then ((agonicref05_heading.f ((rd_T54 x0 x3).f0)).bind fun t181 => (if t181 = true then ((agonicref05_is.f ((rd_T54 x0 x3).f1) (-900) 900).bind fun t183 => (agonicref05_Check.j1 k x0 x3 (!t183))) else (agonicref05_Check.j1 k x0 x3 true))) else (none)) else (some 0)
def agonicref05_Check.j1 : Nat → List (S54) → Int → Bool → Option (Int)
 | 0, _, _, _ => none
 | k + 1, x0, x3, x31 => if x31 = true then (some 1) else (if x3 > 0 then (if 0 ≤ x3 then (if x3 < (x0.length : Int) then (if 0 ≤ (wrap64 (x3 - 1)) then (if (wrap64 (x3 - 1)) < (x0.length : Int) then (agonicref05_Check.j2 k x0 x3 (((rd_T54 x0 x3).f0) == ((rd_T54 x0 (wrap64 (x3 - 1))).f0))) else (none)) else (none)) else (none)) else (none)) else (agonicref05_Check.j2 k x0 x3 false))
def agonicref05_Check.j2 : Nat → List (S54) → Int → Bool → Option (Int)
 | 0, _, _, _ => none
 | k + 1, x0, x3, x47 => if x47 = true then (some 7) else (if x3 > 0 then (if 0 ≤ x3 then (if x3 < (x0.length : Int) then (if 0 ≤ (wrap64 (x3 - 1)) then (if (wrap64 (x3 - 1)) < (x0.length : Int) then (if ((rd_T54 x0 x3).f0) < ((rd_T54 x0 (wrap64 (x3 - 1))).f0) then (some 5) else (agonicref05_Check.l0 k x0 (wrap64 (x3 + 1)))) else (none)) else (none)) else (none)) else (none)) else (agonicref05_Check.l0 k x0 (wrap64 (x3 + 1))))
end
def agonicref05_Check.f (k : Nat) (l0 : List (S54)) : Option (Int) := if (l0.length : Int) = 0 then (some 2) else (if (l0.length : Int) > 36 then (some 3) else (agonicref05_Check.l0 k l0 0))
def agonicref05_whole.f (a0 : Int) : Option (Int × Int) := some (a0, 1)
end Go.Proofs.Ytccjefoejjnccaa.C
