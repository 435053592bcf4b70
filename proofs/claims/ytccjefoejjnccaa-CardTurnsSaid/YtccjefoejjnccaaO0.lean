/- What is proved here: data that comes in (slices, structs, arrays, whole numbers) reads as the lists and numbers of the printed functions. -/
import Derived.Test.YtccjefoejjnccaaC0
import Derived.Deep.Slices
import Derived.OpenShut
import Derived.ChangeArms
namespace Go.Proofs.Ytccjefoejjnccaa.O
open Go.ChangeShapes Go.WideShapes Go.RowKit Go.Deep Go.Proofs.Ytccjefoejjnccaa Go.Proofs.Ytccjefoejjnccaa.C Go.Proofs.YtccjefoejjnccaaW.PrintWords Go.Proofs.YtccjefoejjnccaaW.PrintLast
set_option linter.unusedVariables false
theorem list_of {α : Type} {p : Nat → α → Prop} : ∀ n, (∀ i, i < n → ∃ y, p i y) → ∃ l : List α, l.length = n ∧ ∀ j y, l[j]? = some y → p j y
  | 0, _ => ⟨[], rfl, fun j y h => by simp at h⟩
  | n + 1, h => by
    obtain ⟨l, hl, hp⟩ := list_of n (fun i hi => h i (by omega))
    obtain ⟨y, hy⟩ := h n (by omega)
    refine ⟨l ++ [y], by simp [hl], fun j z hz => ?_⟩
    rcases Nat.lt_or_ge j l.length with hj | hj
    · rw [List.getElem?_append_left hj] at hz
      exact hp j z hz
    · rw [List.getElem?_append_right hj] at hz
      rcases Nat.eq_or_lt_of_le hj with e | e
      · rw [← e, Nat.sub_self] at hz
        simp at hz
        rw [← hz, ← e, hl]; exact hy
      · rw [List.getElem?_eq_none (by simp; omega)] at hz; cases hz
end Go.Proofs.Ytccjefoejjnccaa.O
