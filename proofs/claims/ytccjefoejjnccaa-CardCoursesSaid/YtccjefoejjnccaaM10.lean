/- What is proved here: how many compass courses there are; allowances are told alike by the program and the reference. -/
import Derived.Test.YtccjefoejjnccaaM9
namespace Go.Proofs.Ytccjefoejjnccaa.M
open Go.Proofs.Ytccjefoejjnccaa Go.RowKit Go.Proofs.Ytccjefoejjnccaa.C Go.Proofs.Ytccjefoejjnccaa.H Go.Proofs.YtccjefoejjnccaaW.PrintWords Go.Proofs.YtccjefoejjnccaaW.PrintLast Go.Proofs.YtccjefoejjnccaaW.PrintMore
set_option linter.unusedSimpArgs false
set_option linter.unusedVariables false
/-- How many of the numbers s, s + 3600, .. (n of them) are below c, or at most c. -/
def cl (s c : Int) : Nat → Int
  | 0 => 0
  | n + 1 => cl s c n + if s + 3600 * (n : Int) < c then 1 else 0
theorem run_up {a b s : Int} (h : a ≤ b) (P : Int → Bool) (hP : ∀ m, P m = true ↔ a ≤ m ∧ m < b) : ∀ n, ((runM P s n).length : Int) = cl s b n - cl s a n
  | 0 => by simp [runM, cl]
  | n + 1 => by
    have ih := run_up h P hP n (s := s)
    rw [run_succ, List.length_append]
    simp only [cl]
    by_cases hp : P (s + 3600 * (n : Int)) = true
    · have := (hP _).1 hp
      rw [if_pos hp, if_pos (by omega), if_neg (by omega)]
      simp; omega
    · have : ¬ (a ≤ s + 3600 * (n : Int) ∧ s + 3600 * (n : Int) < b) := fun hh => hp ((hP _).2 hh)
      rw [if_neg hp]
      split <;> split <;> simp <;> omega
/-- How many hits of a magnetic heading lie below a course. -/
def low (mag c : Int) : Int := cl (mag - 7200) c 5
theorem low_eq {mag c : Int} (h0 : 0 ≤ mag) (h1 : mag < 3600) (h2 : -900 ≤ c) (h3 : c ≤ 8100) : low mag c = (c - mag + 10799) / 3600 := by
  unfold low
  simp only [cl]
  split <;> split <;> split <;> split <;> split <;> omega
theorem hits_up {l : List S55} {mag : Int} {i : Nat} (h : cr l i ≤ cr l (i + 1)) : ((hitsM l mag i).length : Int) = low mag (cr l (i + 1)) - low mag (cr l i) :=
  run_up h _ (fun m => by rw [inSeg_iff]; omega) 5
theorem cr_last {l : List S55} (h : Valid l) : cr l l.length = cr l 0 + 3600 := by
  obtain ⟨a, b⟩ := h.last
  unfold cr
  omega
/-- A card all of whose segments rise has one compass course for each heading. -/
theorem allC_rise {l : List S55} {mag : Int} : ∀ n, (∀ i, i < n → cr l i ≤ cr l (i + 1)) → ((allC l mag n).length : Int) = low mag (cr l n) - low mag (cr l 0)
  | 0, _ => by simp [allC]
  | n + 1, h => by
    have ih := allC_rise n (fun i hi => h i (by omega)) (mag := mag)
    have := hits_up (mag := mag) (h n (by omega))
    rw [allC_succ, List.length_append, List.length_map]
    omega
theorem one_course {l : List S55} (h : Valid l) {mag : Int} (h0 : 0 ≤ mag) (h1 : mag < 3600) (hr : ∀ i, i < l.length → cr l i < cr l (i + 1)) : (allC l mag l.length).length = 1 := by
  have e := allC_rise (mag := mag) l.length (fun i hi => Int.le_of_lt (hr i hi))
  have c0 := h.cr_bd (Nat.zero_le _)
  have cn := h.cr_bd (Nat.le_refl _)
  have el := cr_last h
  rw [low_eq h0 h1 (by omega) (by omega), low_eq h0 h1 (by omega) (by omega), el] at e
  omega
theorem foldIdx_nil : ∀ (xs : List (S55 × S55)) (i : Int), foldIdx xs i = [] ↔ ∀ x ∈ xs, foldsAt x = false
  | [], i => by simp [foldIdx]
  | x :: xs, i => by
    simp only [foldIdx]
    rcases hb : foldsAt x with _ | _
    · rw [if_neg (by decide), foldIdx_nil xs]
      simp [hb]
    · rw [if_pos rfl]
      simp [hb]
theorem no_folds {l : List S55} (h : Valid l) : foldIdx (segs l) 0 = [] ↔ ∀ i, i < l.length → cr l i < cr l (i + 1) := by
  rw [foldIdx_nil]
  constructor
  · intro hx i hi
    have := hx (seg l i) (List.mem_map.2 ⟨i, List.mem_range.2 hi, rfl⟩)
    rw [foldsAt_f h hi, decide_eq_false_iff_not] at this
    omega
  · intro hx x hm
    obtain ⟨i, hi, rfl⟩ := segs_mem hm
    rw [foldsAt_f h hi, decide_eq_false_iff_not]
    have := hx i hi
    omega
theorem not_flat {l : List S55} (hr : ∀ i, i < l.length → cr l i < cr l (i + 1)) {mag : Int} : ∀ i, i < l.length → ¬ flatS l mag i := fun i hi hf => by
  have := hr i hi
  have := hf.1
  omega
/-- The one course of a sound card, and the deviation there. -/
theorem allow_same {l : List S55} (h : Valid l) {k : Nat} (hk : 41000 ≤ k) {mag : Int} (h0 : 0 ≤ mag) (h1 : mag < 3600) (hr : ∀ i, i < l.length → cr l i < cr l (i + 1)) :
    ∃ (x : S101) (p q : Int) (i : Nat), card_Card_courses.f k l mag = some ([x], true) ∧ agonicref05_Courses.f k (l.map cv) mag = some ([c29 x], 0) ∧ allC l mag l.length = [x] ∧ FrR x ∧
      card_Card_deviation.f k l x.f0 x.f1 = some (p, q) ∧ agonicref05_deviation.f k (l.map cv) x.f0 x.f1 = some (p, q) ∧ DevIs l (inTurn l x.f0 x.f1) x.f1 p q i := by
  have hle := h.le
  obtain ⟨k, rfl⟩ : ∃ k', k = k' + 2 := ⟨k - 2, by omega⟩
  rcases Courses_is h (k := k) (by omega) h0 h1 with ⟨⟨i, hi, hf⟩, _⟩ | ⟨_, xs, e1, e2, hp, _⟩
  · exact absurd hf (not_flat hr i hi)
  · have hlen := one_course h h0 h1 hr
    have hx : xs.length = 1 := by rw [hp.length_eq, hlen]
    obtain ⟨x, rfl⟩ : ∃ x, xs = [x] := List.length_eq_one_iff.1 hx
    obtain ⟨y, hy⟩ : ∃ y, allC l mag l.length = [y] := List.length_eq_one_iff.1 hlen
    have hxy : x = y := by
      have := hp.mem_iff (a := x)
      rw [hy] at this
      simpa using this
    subst hxy
    have hfr : FrR x := allC_fr h (mag := mag) (by rw [hy]; simp)
    obtain ⟨f1, f2, f3, f4, f5⟩ := hfr
    obtain ⟨p, q, i, d1, d2, d3⟩ := dev_same h (k := k + 2) (by omega) f1 (show x.f1 ≤ 12960000 by omega) f3 f4
    have hchk : chkAll l = 0 ∨ ¬ chkAll l = 0 := Decidable.em _
    refine ⟨x, p, q, i, card_Card_courses.mono _ _ _ _ (card_Card_courses.mono _ _ _ _ e1), ?_, hy, ⟨f1, f2, f3, f4, f5⟩, d1, d2, d3⟩
    rw [rCourses_head (by omega) (by omega)]
    have hc0 : chkAll l = 0 := by
      unfold chkAll
      have hp := h.pos
      rw [if_neg (by omega), if_neg (by omega), chk_iff]
      constructor
      · intro z hz
        obtain ⟨j, hj, rfl⟩ := List.getElem_of_mem hz
        have a := h.hr j hj
        have b := h.dr j
        unfold hd at a; unfold dv at b
        rw [if_pos hj, getD_lt hj] at a b
        exact ⟨⟨a.1, a.2, b.1, b.2⟩, by omega⟩
      · rw [List.pairwise_iff_getElem]
        intro a b ha hb hab
        have := h.mono a b hab (by omega)
        unfold hd at this
        rw [if_pos ha, if_pos hb, getD_lt ha, getD_lt hb] at this
        exact this
    rw [if_pos hc0, if_pos ⟨h0, h1⟩]
    exact e2
theorem Allowance_same {l : List S55} {k : Nat} (hl : l.length ≤ 60) (hk : 42000 ≤ k) (mag : Int) : ∃ p q e, card_Allowance.f k l mag = some (p, q, e) ∧ agonicref05_Allowance.f k (l.map cv) mag = some (p, q, e) := by
  obtain ⟨k, rfl⟩ : ∃ k', k = k' + 4 := ⟨k - 4, by omega⟩
  have e0 : card_Allowance.f (k + 4) l mag = if chkAll l = 0 then (if 0 ≤ mag ∧ mag < 3600 then (if (foldIdx (segs l) 0) = [] then (card_Card_allowance.f (k + 4) l mag).bind (fun b => some (b.1, b.2, 0)) else some (0, 0, 21)) else some (0, 0, 1)) else some (0, 0, chkAll l) := by
    unfold card_Allowance.f
    rw [Check_f (by omega) (by omega), Option.bind_some]
    by_cases h : chkAll l = 0
    · rw [if_pos h, if_pos h, heading_f, Option.bind_some, folds_f (valid_of_chk h)]
      by_cases hc : 0 ≤ mag ∧ mag < 3600
      · rw [if_pos (decide_eq_true hc), if_pos hc, Option.bind_some]
        by_cases hf : foldIdx (segs l) 0 = []
        · rw [if_pos hf, hf, if_neg (by simp)]
          rfl
        · rw [if_neg hf, if_pos (by
            have := List.length_pos_iff.2 hf
            omega)]
      · rw [if_neg (by rw [decide_eq_false hc]; decide), if_neg hc]
    · rw [if_neg h, if_neg h]
  have e1 : agonicref05_Allowance.f (k + 4) (l.map cv) mag = if chkAll l = 0 then (if 0 ≤ mag ∧ mag < 3600 then (if (foldIdx (segs l) 0) = [] then agonicref05_Allowance.j3 (k + 1) (l.map cv) mag 0 else some (0, 0, 21)) else some (0, 0, 1)) else some (0, 0, chkAll l) := by
    have j3n : ∀ e, e ≠ 0 → agonicref05_Allowance.j3 (k + 1) (l.map cv) mag e = some (0, 0, e) := fun e he => by
      simp only [agonicref05_Allowance.j3]
      rw [if_neg he]
    unfold agonicref05_Allowance.f
    rw [rFolds_f (by omega) (by omega), Option.bind_some]
    by_cases h : chkAll l = 0
    · rw [if_pos h, if_pos h]
      dsimp only
      rw [if_pos rfl, rheading_f, Option.bind_some]
      simp only [agonicref05_Allowance.j0, agonicref05_Allowance.j1, agonicref05_Allowance.j2]
      by_cases hc : 0 ≤ mag ∧ mag < 3600
      · rw [if_neg (by rw [decide_eq_true hc]; decide), if_pos trivial, if_pos hc]
        by_cases hf : foldIdx (segs l) 0 = []
        · rw [if_pos hf, hf, if_neg (by simp)]
        · rw [if_neg hf, if_pos (by
            have := List.length_pos_iff.2 hf
            simp; omega), j3n 21 (by decide)]
      · rw [if_pos (by rw [decide_eq_false hc]; rfl), if_neg (by decide), if_neg (by decide), if_neg hc, j3n 1 (by decide)]
    · rw [if_neg h, if_neg h]
      dsimp only
      rw [if_neg h]
      simp only [agonicref05_Allowance.j0, agonicref05_Allowance.j1, agonicref05_Allowance.j2]
      rw [if_neg (by decide), if_neg h, if_neg (by decide), j3n _ h]
  rw [e0, e1]
  by_cases h : chkAll l = 0
  · rw [if_pos h, if_pos h]
    by_cases hc : 0 ≤ mag ∧ mag < 3600
    · rw [if_pos hc, if_pos hc]
      by_cases hf : foldIdx (segs l) 0 = []
      · rw [if_pos hf, if_pos hf]
        have hv := valid_of_chk h
        have hr := (no_folds hv).1 hf
        obtain ⟨x, p, q, i, a1, a2, _, _, a3, a4, _⟩ := allow_same hv (k := k) (by omega) hc.1 hc.2 hr
        refine ⟨p, q, 0, ?_, ?_⟩
        · unfold card_Card_allowance.f
          have m1 : card_Card_courses.f (k + 4) l mag = some ([x], true) := card_Card_courses.mono _ _ _ _ (card_Card_courses.mono _ _ _ _ (card_Card_courses.mono _ _ _ _ (card_Card_courses.mono _ _ _ _ a1)))
          have m2 : card_Card_deviation.f (k + 4) l x.f0 x.f1 = some (p, q) := card_Card_deviation.mono _ _ _ _ _ (card_Card_deviation.mono _ _ _ _ _ (card_Card_deviation.mono _ _ _ _ _ (card_Card_deviation.mono _ _ _ _ _ a3)))
          rw [m1, Option.bind_some, if_pos (by simp)]
          show ((card_Card_deviation.f (k + 4) l x.f0 x.f1).bind _).bind _ = _
          rw [m2]; rfl
        · simp only [agonicref05_Allowance.j3]
          rw [if_pos trivial, a2, Option.bind_some, if_pos (by simp)]
          show (agonicref05_deviation.f k (l.map cv) x.f0 x.f1).bind _ = _
          rw [a4]; rfl
      · rw [if_neg hf, if_neg hf]
        exact ⟨_, _, _, rfl, rfl⟩
    · rw [if_neg hc, if_neg hc]
      exact ⟨_, _, _, rfl, rfl⟩
  · rw [if_neg h, if_neg h]
    exact ⟨_, _, _, rfl, rfl⟩
theorem CardCourses_pure (l : List S55) (c : Int) : ∃ k, agoniclaw05_CardCourses.f k l c = some true := by
  refine ⟨43000, ?_⟩
  unfold agoniclaw05_CardCourses.f
  by_cases h : (l.length : Int) > 60
  · rw [if_pos h]; rfl
  · rw [if_neg h, given_f (by omega) (by omega), Option.bind_some]
    obtain ⟨xs, e, a1, a2, a3⟩ := Courses_same (l := l) (k := 43000) (by omega) (by omega) c
    obtain ⟨p, q, e', b1, b2⟩ := Allowance_same (l := l) (k := 43000) (by omega) (by omega) c
    rw [a1, a2, b1, b2]
    simp only [Option.bind_some]
    rw [ratios_f (by omega) (by omega), Option.bind_some, if_pos rfl, if_pos trivial, if_pos (by simp), if_pos trivial]
    rfl
end Go.Proofs.Ytccjefoejjnccaa.M
