-- Written by a program of this session (wip/tools/myprint.py, over the kit's print).
import Derived.Test.YtccjefoejjnccaaC0
import Derived.Test.YtccjefoejjnccaaC6
import Derived.Test.YtccjefoejjnccaaC7
import Derived.Test.YtccjefoejjnccaaC8
import Derived.Test.YtccjefoejjnccaaC9
import Derived.Test.YtccjefoejjnccaaC11
import Derived.Test.YtccjefoejjnccaaZ
namespace Go.Proofs.Ytccjefoejjnccaa.C
open Go.RowKit Go.Proofs.YtccjefoejjnccaaW.PrintWords Go.Proofs.YtccjefoejjnccaaW.PrintLast Go.Proofs.YtccjefoejjnccaaW.PrintMore
attribute [local go_sem] max2_int min2_int max_two min_two max_three min_three max_four min_four   -- for this text's walks alone
set_option linter.unusedVariables false
set_option linter.unusedSimpArgs false
mutual
def agonicref05_Courses.j0 : Nat → List (S54) → Int → Int → Bool → Option ((List (S29)) × Int)
 | 0, _, _, _, _ => none
 | k + 1, x0, x1, x6, x24 => if x24 = true then (agonicref05_Courses.j1 k x0 x1 1) else (agonicref05_Courses.j1 k x0 x1 x6)
def agonicref05_Courses.j1 : Nat → List (S54) → Int → Int → Option ((List (S29)) × Int)
 | 0, _, _, _ => none
 | k + 1, x0, x1, x6 => if x6 = 0 then (agonicref05_Courses.l0 k x0 x1 ([] : List (S29)) 0) else (some (([] : List (S29)), x6))
def agonicref05_Courses.l0 : Nat → List (S54) → Int → List (S29) → Int → Option ((List (S29)) × Int)
 | 0, _, _, _, _ => none
 | k + 1, x0, x1, x7, x8 => if x8 < (x0.length : Int) then ((agonicref05_segment.f x0 x8).bind fun bt256 => (agonicref05_Courses.l1 k x0 x1 x7 x8 (-2) bt256.1 bt256.2.1 bt256.2.2.1 bt256.2.2.2)) else (some (x7, 0))
def agonicref05_Courses.l1 : Nat → List (S54) → Int → List (S29) → Int → Int → Int → Int → Int → Int → Option ((List (S29)) × Int)
 | 0, _, _, _, _, _, _, _, _, _ => none
 | k + 1, x0, x1, x7, x8, x11, x261000, x261001, x262000, x262001 => if x11 ≤ 2 then ((agonicref05_rise.f x0 x8).bind fun t262 => (if t262 = 0 then (if (wrap64 ((wrap64 ((wrap64 (x1 + (wrap64 (x11 * 3600)))) - x261000)) - x261001)) = 0 then (some (([] : List (S29)), 16)) else (agonicref05_Courses.l1 k x0 x1 x7 x8 (wrap64 (x11 + 1)) x261000 x261001 x262000 x262001)) else ((agonicref01_Reduced.f k (wrap64 ((wrap64 ((wrap64 ((wrap64 (x1 + (wrap64 (x11 * 3600)))) - x261000)) - x261001)) * (wrap64 (x262000 - x261000)))) t262).bind fun bt263 => (if bt263.1 < 0 then (agonicref05_Courses.j4 k x0 x1 x7 x8 x11 true x261000 x261001 x262000 x262001 bt263.1 bt263.2) else ((agonicref05_whole.f (wrap64 (x262000 - x261000))).bind fun bt266 => ((agonicref01_Less.f bt263.1 bt263.2 bt266.1 bt266.2).bind fun t268 => (agonicref05_Courses.j4 k x0 x1 x7 x8 x11 (!t268) x261000 x261001 x262000 x262001 bt263.1 bt263.2))))))) else (agonicref05_Courses.l0 k x0 x1 x7 (wrap64 (x8 + 1)))
def agonicref05_Courses.j4 : Nat → List (S54) → Int → List (S29) → Int → Int → Bool → Int → Int → Int → Int → Int → Int → Option ((List (S29)) × Int)
 | 0, _, _, _, _, _, _, _, _, _, _, _, _ => none
 | k + 1, x0, x1, x7, x8, x11, x83, x261000, x261001, x262000, x262001, x266000, x266001 => if x83 = true then (agonicref05_Courses.l1 k x0 x1 x7 x8 (wrap64 (x11 + 1)) x261000 x261001 x262000 x262001) else ((agonicref05_whole.f x261000).bind fun bt269 => ((agonicref05_Plus.f k bt269.1 bt269.2 x266000 x266001).bind fun bt271 => ((agonicref05_around.f k bt271.1 bt271.2).bind fun bt273 => (if x7.length < 8796093022208 then ((some (x7 ++ [(⟨bt273.1, bt273.2⟩ : S29)] : List (S29))).bind fun y275 => (agonicref05_Courses.l2 k x0 x1 y275 x8 x11 (wrap64 ((y275.length : Int) - 1)) x261000 x261001 x262000 x262001)) else (none)))))
def agonicref05_Courses.l2 : Nat → List (S54) → Int → List (S29) → Int → Int → Int → Int → Int → Int → Int → Option ((List (S29)) × Int)
 | 0, _, _, _, _, _, _, _, _, _, _ => none
 | k + 1, x0, x1, x7, x8, x11, x15, x261000, x261001, x262000, x262001 => if x15 > 0 then (if 0 ≤ x15 then (if x15 < (x7.length : Int) then (if 0 ≤ (wrap64 (x15 - 1)) then (if (wrap64 (x15 - 1)) < (x7.length : Int) then ((agonicref01_Less.f ((rd_T29 x7 x15).f0) ((rd_T29 x7 x15).f1) ((rd_T29 x7 (wrap64 (x15 - 1))).f0) ((rd_T29 x7 (wrap64 (x15 - 1))).f1)).bind fun t280 => (if t280 = true then (agonicref05_Courses.l2 k x0 x1 ((x7.set (x15 : Int).toNat (⟨(rd_T29 x7 (wrap64 (x15 - 1))).f0, (rd_T29 x7 (wrap64 (x15 - 1))).f1⟩ : S29)).set ((wrap64 (x15 - 1)) : Int).toNat (⟨(rd_T29 x7 x15).f0, (rd_T29 x7 x15).f1⟩ : S29)) x8 x11 (wrap64 (x15 - 1)) x261000 x261001 x262000 x262001) else (agonicref05_Courses.l1 k x0 x1 x7 x8 (wrap64 (x11 + 1)) x261000 x261001 x262000 x262001))) else (none)) else (none)) else (none)) else (none)) else (agonicref05_Courses.l1 k x0 x1 x7 x8 (wrap64 (x11 + 1)) x261000 x261001 x262000 x262001)
end
end Go.Proofs.Ytccjefoejjnccaa.C
