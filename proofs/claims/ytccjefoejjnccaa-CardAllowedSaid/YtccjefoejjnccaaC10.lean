-- Written by a program of this session (wip/tools/myprint.py, over the kit's print).
import Derived.Test.YtccjefoejjnccaaC0
import Derived.Test.YtccjefoejjnccaaC7
import Derived.Test.YtccjefoejjnccaaC8
import Derived.Test.YtccjefoejjnccaaC9
import Derived.Test.YtccjefoejjnccaaZ
namespace Go.Proofs.Ytccjefoejjnccaa.C
open Go.RowKit Go.Proofs.YtccjefoejjnccaaW.PrintWords Go.Proofs.YtccjefoejjnccaaW.PrintLast Go.Proofs.YtccjefoejjnccaaW.PrintMore
attribute [local go_sem] max2_int min2_int max_two min_two max_three min_three max_four min_four   -- for this text's walks alone
set_option linter.unusedVariables false
set_option linter.unusedSimpArgs false
mutual
def agonicref05_deviation.j0 : Nat → List (S54) → Int → Int → Option (Int × Int)
 | 0, _, _, _ => none
 | k + 1, x0, x208000, x208001 => agonicref05_deviation.l0 k x0 0 x208000 x208001
def agonicref05_deviation.l0 : Nat → List (S54) → Int → Int → Int → Option (Int × Int)
 | 0, _, _, _, _ => none
 | k + 1, x0, x5, x208000, x208001 => if x5 < (x0.length : Int) then ((agonicref05_segment.f x0 x5).bind fun bt215 => ((agonicref05_whole.f bt215.1).bind fun bt221 => ((agonicref01_Less.f x208000 x208001 bt221.1 bt221.2).bind fun t223 => (if t223 = true then (agonicref05_deviation.j2 k x0 x5 true x208000 x208001 bt215.1 bt215.2.1 bt215.2.2.1 bt215.2.2.2) else ((agonicref05_whole.f bt215.2.2.1).bind fun bt224 => ((agonicref01_Less.f x208000 x208001 bt224.1 bt224.2).bind fun t226 => (agonicref05_deviation.j2 k x0 x5 (!t226) x208000 x208001 bt215.1 bt215.2.1 bt215.2.2.1 bt215.2.2.2))))))) else ((agonicref05_whole.f 0).bind fun bt213 => (some (bt213.1, bt213.2)))
def agonicref05_deviation.j2 : Nat → List (S54) → Int → Bool → Int → Int → Int → Int → Int → Int → Option (Int × Int)
 | 0, _, _, _, _, _, _, _, _, _ => none
 | k + 1, x0, x5, x47, x208000, x208001, x220000, x220001, x221000, x221001 => if x47 = true then (agonicref05_deviation.l0 k x0 (wrap64 (x5 + 1)) x208000 x208001) else ((agonicref01_Reduced.f k (wrap64 ((wrap64 (x221001 - x220001)) * (wrap64 (x208000 - (wrap64 (x220000 * x208001)))))) (wrap64 ((wrap64 (x221000 - x220000)) * x208001))).bind fun bt227 => ((agonicref05_whole.f x220001).bind fun bt230 => ((agonicref05_Plus.f k bt230.1 bt230.2 bt227.1 bt227.2).bind fun bt232 => (some (bt232.1, bt232.2)))))
end
def agonicref05_deviation.f (k : Nat) (l0 : List (S54)) (a1_0 : Int) (a1_1 : Int) : Option (Int × Int) := if 0 < (l0.length : Int) then ((agonicref05_whole.f ((rd_T54 l0 0).f0)).bind fun bt210 => ((agonicref01_Less.f a1_0 a1_1 bt210.1 bt210.2).bind fun t212 => (if t212 = true then (agonicref05_deviation.j0 k l0 (wrap64 (a1_0 + (wrap64 (3600 * a1_1)))) a1_1) else (agonicref05_deviation.j0 k l0 a1_0 a1_1)))) else (none)
end Go.Proofs.Ytccjefoejjnccaa.C
