-- Written by a program of this session (wip/tools/myprint.py, over the kit's print).
import Derived.Test.YtccjefoejjnccaaC0
import Derived.Test.YtccjefoejjnccaaC6
import Derived.Test.YtccjefoejjnccaaC7
import Derived.Test.YtccjefoejjnccaaC8
import Derived.Test.YtccjefoejjnccaaC9
import Derived.Maps.RangeWalk
import Derived.Test.YtccjefoejjnccaaZ
namespace Go.Proofs.Ytccjefoejjnccaa.C
open Go.RowKit Go.Proofs.YtccjefoejjnccaaW.PrintWords Go.Proofs.YtccjefoejjnccaaW.PrintLast Go.Proofs.YtccjefoejjnccaaW.PrintMore
attribute [local go_sem] max2_int min2_int max_two min_two max_three min_three max_four min_four   -- for this text's walks alone
set_option linter.unusedVariables false
set_option linter.unusedSimpArgs false
def agonicref05_rise.f (l0 : List (S54)) (a1 : Int) : Option (Int) := (agonicref05_segment.f l0 a1).bind fun bt241 => (some (wrap64 ((wrap64 ((wrap64 (bt241.2.2.1 - bt241.1)) + bt241.2.2.2)) - bt241.2.1)))
mutual
def agonicref05_around.l0 : Nat → Int → Int → Option (Int × Int)
 | 0, _, _ => none
 | k + 1, x253000, x253001 => if x253000 < 0 then (agonicref05_around.l0 k (wrap64 (x253000 + (wrap64 (3600 * x253001)))) x253001) else (agonicref05_around.l1 k x253000 x253001)
def agonicref05_around.l1 : Nat → Int → Int → Option (Int × Int)
 | 0, _, _ => none
 | k + 1, x253000, x253001 => if x253000 ≥ (wrap64 (3600 * x253001)) then (agonicref05_around.l1 k (wrap64 (x253000 - (wrap64 (3600 * x253001)))) x253001) else (some (x253000, x253001))
end
def agonicref05_around.f (k : Nat) (a0_0 : Int) (a0_1 : Int) : Option (Int × Int) := agonicref05_around.l0 k a0_0 a0_1
end Go.Proofs.Ytccjefoejjnccaa.C
