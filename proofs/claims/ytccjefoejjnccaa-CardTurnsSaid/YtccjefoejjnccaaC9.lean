-- Written by a program of this session (wip/tools/myprint.py, over the kit's print).
import Derived.Test.YtccjefoejjnccaaC0
import Derived.Test.YtccjefoejjnccaaC8
namespace Go.Proofs.Ytccjefoejjnccaa.C
open Go.RowKit Go.Proofs.YtccjefoejjnccaaW.PrintWords Go.Proofs.YtccjefoejjnccaaW.PrintLast Go.Proofs.YtccjefoejjnccaaW.PrintMore
attribute [local go_sem] max2_int min2_int max_two min_two max_three min_three max_four min_four   -- for this text's walks alone
set_option linter.unusedVariables false
set_option linter.unusedSimpArgs false
def agonicref05_Plus.f (k : Nat) (a0_0 : Int) (a0_1 : Int) (a1_0 : Int) (a1_1 : Int) : Option (Int × Int) := (agonicref01_Divisor.f k a0_1 a1_1).bind fun t204 => (if t204 = 0 then (none) else ((agonicref01_Reduced.f k (wrap64 ((wrap64 (a0_0 * (wrap64 (Int.tdiv a1_1 t204)))) + (wrap64 (a1_0 * (wrap64 (Int.tdiv a0_1 t204)))))) (wrap64 ((wrap64 (Int.tdiv a0_1 t204)) * a1_1))).bind fun bt205 => (some (bt205.1, bt205.2))))
end Go.Proofs.Ytccjefoejjnccaa.C
