/- What is proved here: more rounds do not change the compass courses. -/
import Derived.Test.YtccjefoejjnccaaH5
namespace Go.Proofs.Ytccjefoejjnccaa.H
open Go.RowKit Go.Shelf Go.Proofs.Ytccjefoejjnccaa.C Go.Proofs.YtccjefoejjnccaaH Go.Proofs.YtccjefoejjnccaaW.PrintWords Go.Proofs.YtccjefoejjnccaaW.PrintLast Go.Proofs.YtccjefoejjnccaaW.PrintMore
theorem courseAt_mono (k : Nat) (x : S55 × S55) (m : Int) : LeO (courseAt k x m) (courseAt (k + 1) x m) := by
  unfold courseAt
  exact LeO.bind (card_ratio_plain.mono _ _ _) fun t => LeO.bind (card_ratio_plus.mono _ _ _ _) fun p => LeO.refl _
theorem solsTo_mono (k : Nat) (mag : Int) (x : S55 × S55) : ∀ n, LeO (solsTo k mag x n) (solsTo (k + 1) mag x n)
  | 0 => LeO.refl _
  | n + 1 => by
    unfold solsTo
    refine LeO.bind (solsTo_mono k mag x n) fun l => ?_
    split
    · exact LeO.refl _
    · exact LeO.bind (courseAt_mono _ _ _) fun v => LeO.refl _
theorem segSols_mono (k : Nat) (mag : Int) (x : S55 × S55) : LeO (segSols k mag x) (segSols (k + 1) mag x) := solsTo_mono _ _ _ _
theorem solsAll_mono (k : Nat) (mag : Int) (xs : List (S55 × S55)) (h : ∀ x ∈ xs, (segSols k mag x).isSome = true) : solsAll (k + 1) mag xs = solsAll k mag xs := by
  unfold solsAll
  induction xs with
  | nil => rfl
  | cons x xs ih =>
    rw [List.flatMap_cons, List.flatMap_cons, ih fun y hy => h y (by simp [hy])]
    obtain ⟨v, hv⟩ := Option.isSome_iff_exists.1 (h x (by simp))
    rw [hv, segSols_mono k mag x v hv]
theorem card_Card_courses.mono : ∀ a0 a1 k, LeO (card_Card_courses.f k a0 a1) (card_Card_courses.f (k + 1) a0 a1) := by
  intro l0 mag k r h
  unfold card_Card_courses.f at h ⊢
  split at h
  case isFalse => cases h
  case isTrue hg =>
  obtain ⟨h1, h2, h3, h4, h5, h6⟩ := hg
  have h6' : (segs l0).all (fun x => flatHit mag x || (segSols (k + 1) mag x).isSome) = true := by
    rw [List.all_eq_true] at h6 ⊢
    intro x hx
    have := h6 x hx
    rw [Bool.or_eq_true] at this ⊢
    rcases this with e | e
    · exact .inl e
    · obtain ⟨v, hv⟩ := Option.isSome_iff_exists.1 e
      exact .inr (by rw [segSols_mono k mag x v hv]; rfl)
  rw [if_pos ⟨h1, h2, h3, h4, h5, h6'⟩]
  cases hf : (segs l0).any (flatHit mag) with
  | true => rw [hf] at h; exact h
  | false =>
    rw [hf] at h
    rw [solsAll_mono k mag (segs l0) fun x hx => ?_]
    · exact h
    · have := List.all_eq_true.1 h6 x hx
      have hn := List.any_eq_false.1 hf x hx
      simpa [hn] using this
end Go.Proofs.Ytccjefoejjnccaa.H
