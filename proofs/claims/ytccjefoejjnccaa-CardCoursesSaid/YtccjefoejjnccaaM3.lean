/- What is proved here: the deviation on a fraction is the exact one, of the program and of the reference. -/
import Derived.Test.YtccjefoejjnccaaM2
import Derived.Test.YtccjefoejjnccaaC10
import Derived.Test.YtccjefoejjnccaaC11
namespace Go.Proofs.Ytccjefoejjnccaa.M
open Go.Proofs.Ytccjefoejjnccaa Go.RowKit Go.Proofs.Ytccjefoejjnccaa.C Go.Proofs.Ytccjefoejjnccaa.H Go.Proofs.YtccjefoejjnccaaW.PrintWords Go.Proofs.YtccjefoejjnccaaW.PrintLast Go.Proofs.YtccjefoejjnccaaW.PrintMore
set_option linter.unusedSimpArgs false
set_option linter.unusedVariables false
/-- Heading and deviation at the beginning of segment i; the end of the last one lies a turn behind the first point. -/
def hd (l : List S55) (i : Nat) : Int := if i < l.length then (l.getD i z55).f0 else (l.getD 0 z55).f0 + 3600
def dv (l : List S55) (i : Nat) : Int := if i < l.length then (l.getD i z55).f1 else (l.getD 0 z55).f1
structure Valid (l : List S55) : Prop where
  pos : 0 < l.length
  le : l.length ≤ 36
  hr : ∀ i, i < l.length → 0 ≤ hd l i ∧ hd l i < 3600
  dr : ∀ i, -900 ≤ dv l i ∧ dv l i ≤ 900
  mono : ∀ i j, i < j → j ≤ l.length → hd l i < hd l j
theorem Valid.last {l : List S55} (_ : Valid l) : hd l l.length = hd l 0 + 3600 ∧ dv l l.length = dv l 0 := by
  have := ‹Valid l›.pos
  unfold hd dv
  rw [if_neg (by omega), if_pos this, if_neg (by omega), if_pos this]
  exact ⟨rfl, rfl⟩
theorem Valid.mono' {l : List S55} (h : Valid l) {i j : Nat} (hij : i ≤ j) (hj : j ≤ l.length) : hd l i ≤ hd l j := by
  rcases Nat.lt_or_eq_of_le hij with h1 | rfl
  · exact Int.le_of_lt (h.mono i j h1 hj)
  · exact Int.le_refl _
def okP (p : S55) : Prop := 0 ≤ p.f0 ∧ p.f0 < 3600 ∧ -900 ≤ p.f1 ∧ p.f1 ≤ 900
theorem chk_iff : ∀ (l : List S55) (last : Int), chk last l = 0 ↔ (∀ p ∈ l, okP p ∧ last < p.f0) ∧ l.Pairwise (fun a b => a.f0 < b.f0)
  | [], last => by simp [chk]
  | p :: ps, last => by
    have ih := chk_iff ps p.f0
    rw [List.pairwise_cons]
    constructor
    · intro h
      simp only [chk] at h
      by_cases h1 : 0 ≤ p.f0 ∧ p.f0 < 3600 ∧ -900 ≤ p.f1 ∧ p.f1 ≤ 900
      · rw [if_neg (fun hn => hn h1)] at h
        by_cases h2 : p.f0 = last
        · rw [if_pos h2] at h; omega
        · rw [if_neg h2] at h
          by_cases h3 : p.f0 < last
          · rw [if_pos h3] at h; omega
          · rw [if_neg h3] at h
            obtain ⟨e1, e2⟩ := ih.1 h
            refine ⟨fun q hq => ?_, fun q hq => (e1 q hq).2, e2⟩
            rcases List.mem_cons.1 hq with rfl | hq
            · exact ⟨h1, by omega⟩
            · have := (e1 q hq).2
              exact ⟨(e1 q hq).1, by omega⟩
      · rw [if_pos h1] at h; omega
    · rintro ⟨e1, e2, e3⟩
      have hp := e1 p (by simp)
      simp only [chk]
      rw [if_neg (fun hn => hn hp.1), if_neg (by omega), if_neg (by omega)]
      exact ih.2 ⟨fun q hq => ⟨(e1 q (by simp [hq])).1, e2 q hq⟩, e3⟩
theorem getD_lt {l : List S55} {i : Nat} (h : i < l.length) : l.getD i z55 = l[i] := by
  rw [List.getD_eq_getElem?_getD, List.getElem?_eq_getElem h]; rfl
theorem valid_of_chk {l : List S55} (h : chkAll l = 0) : Valid l := by
  unfold chkAll at h
  by_cases h1 : l.length = 0
  · rw [if_pos h1] at h; omega
  · rw [if_neg h1] at h
    by_cases h2 : l.length > 36
    · rw [if_pos h2] at h; omega
    · rw [if_neg h2] at h
      obtain ⟨e1, e2⟩ := (chk_iff l (-1)).1 h
      have hr : ∀ i, i < l.length → 0 ≤ hd l i ∧ hd l i < 3600 := fun i hi => by
        unfold hd
        rw [if_pos hi, getD_lt hi]
        have := (e1 l[i] (List.getElem_mem hi)).1
        exact ⟨this.1, this.2.1⟩
      refine ⟨by omega, by omega, hr, fun i => ?_, fun i j hij hj => ?_⟩
      · unfold dv
        split
        · rename_i hi
          rw [getD_lt hi]
          exact ⟨(e1 _ (List.getElem_mem hi)).1.2.2.1, (e1 _ (List.getElem_mem hi)).1.2.2.2⟩
        · rw [getD_lt (by omega)]
          exact ⟨(e1 _ (List.getElem_mem (by omega))).1.2.2.1, (e1 _ (List.getElem_mem (by omega))).1.2.2.2⟩
      · rcases Nat.lt_or_eq_of_le hj with hj | rfl
        · have := List.pairwise_iff_getElem.1 e2 i j (by omega) hj hij
          unfold hd
          rw [if_pos (by omega), if_pos hj, getD_lt (by omega), getD_lt hj]
          exact this
        · have a := hr i hij
          have b := hr 0 (by omega)
          unfold hd at a b ⊢
          rw [if_pos (by omega)] at a b ⊢
          rw [if_neg (by omega)]
          omega
theorem seg_eq {l : List S55} (h : Valid l) {i : Nat} (hi : i < l.length) : seg l i = (⟨hd l i, dv l i⟩, ⟨hd l (i + 1), dv l (i + 1)⟩) := by
  have h0 := h.hr 0 h.pos
  have e0 : hd l 0 = (l.getD 0 z55).f0 := by unfold hd; rw [if_pos h.pos]
  unfold seg
  have r : ∀ j : Nat, rd_T55 l (j : Int) = l.getD j z55 := fun j => rfl
  have r0 : rd_T55 l 0 = l.getD 0 z55 := rfl
  have ea : rd_T55 l (i : Int) = ⟨hd l i, dv l i⟩ := by rw [r]; unfold hd dv; rw [if_pos hi, if_pos hi]
  rw [ea]
  by_cases hl : i + 1 = l.length
  · rw [if_pos hl, r0, w64 (by omega) (by omega)]
    unfold hd dv
    rw [if_neg (show ¬ i + 1 < l.length by omega), if_neg (show ¬ i + 1 < l.length by omega)]
  · rw [if_neg hl, show ((i : Int) + 1) = ((i + 1 : Nat) : Int) by omega, r]
    unfold hd dv
    rw [if_pos (show i + 1 < l.length by omega), if_pos (show i + 1 < l.length by omega)]
theorem segs_mem {l : List S55} {x : S55 × S55} (h : x ∈ segs l) : ∃ i, i < l.length ∧ x = seg l i := by
  obtain ⟨i, hi, rfl⟩ := List.mem_map.1 h
  exact ⟨i, List.mem_range.1 hi, rfl⟩
/-- The segment in which a fraction lies. -/
theorem find_seg {l : List S55} (h : Valid l) {N d : Int} (hd0 : 1 ≤ d) (h0 : hd l 0 * d ≤ N) : ∀ m, m ≤ l.length → N < hd l m * d → ∃ i, i < m ∧ hd l i * d ≤ N ∧ N < hd l (i + 1) * d
  | 0, _, h1 => by omega
  | m + 1, hm, h1 => by
    by_cases hc : N < hd l m * d
    · obtain ⟨i, hi, e⟩ := find_seg h hd0 h0 m (by omega) hc
      exact ⟨i, by omega, e⟩
    · exact ⟨m, by omega, by omega, h1⟩
theorem seg_first {l : List S55} (h : Valid l) {N d : Int} (hd0 : 1 ≤ d) {i : Nat} (hi : i < l.length) (h1 : hd l i * d ≤ N) (j : Nat) (hj : j < i) : ¬ N < hd l (j + 1) * d := by
  have := Int.mul_le_mul_of_nonneg_right (h.mono' (show j + 1 ≤ i by omega) (by omega)) (show 0 ≤ d by omega)
  omega
/-- The deviation on N / d in segment i: numerator and denominator, not reduced. -/
def devN (l : List S55) (i : Nat) (N d : Int) : Int := dv l i * ((hd l (i + 1) - hd l i) * d) + (N - hd l i * d) * (dv l (i + 1) - dv l i)
def devD (l : List S55) (i : Nat) (d : Int) : Int := (hd l (i + 1) - hd l i) * d
theorem Valid.len {l : List S55} (h : Valid l) {i : Nat} (hi : i < l.length) : 1 ≤ hd l (i + 1) - hd l i ∧ hd l (i + 1) - hd l i ≤ 3600 ∧ hd l i < 3600 ∧ hd l (i + 1) < 7200 ∧ 0 ≤ hd l i ∧ 0 ≤ hd l (i + 1) := by
  have h1 := h.mono i (i + 1) (by omega) (by omega)
  have h2 := h.hr i hi
  have h3 := h.last
  have h4 := h.mono' (show 0 ≤ i by omega) (show i ≤ l.length by omega)
  have h5 := h.mono' (show i + 1 ≤ l.length by omega) (Nat.le_refl _)
  have h6 := h.hr 0 h.pos
  omega
theorem prod_le {a b A B : Int} (h0 : 0 ≤ a) (h1 : a ≤ A) (h2 : 0 ≤ b) (h3 : b ≤ B) : 0 ≤ a * b ∧ a * b ≤ A * B :=
  ⟨Int.mul_nonneg h0 h2, Int.le_trans (Int.mul_le_mul_of_nonneg_right h1 h2) (Int.mul_le_mul_of_nonneg_left h3 (by omega))⟩
/-- The bounds of what is reckoned on a segment. -/
theorem devAt_f {l : List S55} (h : Valid l) {i : Nat} (hi : i < l.length) {k : Nat} (hk : 132 ≤ k) {N d : Int} (hd0 : 1 ≤ d) (hd1 : d ≤ 12960000) (hN0 : 0 ≤ N) (hN1 : N ≤ 7200 * d) :
    ∃ p q, devAt k N d (seg l i) = some (p, q) ∧ IsR p q (devN l i N d) (devD l i d) ∧ q ∣ devD l i d := by
  obtain ⟨b1, b2, b3, b4, b5, b6⟩ := h.len hi
  have c1 := h.dr i
  have c2 := h.dr (i + 1)
  have hL : devD l i d = (hd l (i + 1) - hd l i) * d := rfl
  have hP := prod_le (show 0 ≤ hd l (i + 1) - hd l i by omega) b2 (show 0 ≤ d by omega) hd1
  have hP1 : 1 ≤ (hd l (i + 1) - hd l i) * d := by
    have : 0 < (hd l (i + 1) - hd l i) * d := Int.mul_pos (by omega) (by omega)
    omega
  unfold devAt
  rw [seg_eq h hi]
  dsimp only
  rw [w64 (x := -hd l i) (by omega) (by omega), w64 (x := dv l (i + 1) - dv l i) (by omega) (by omega), w64 (x := hd l (i + 1) - hd l i) (by omega) (by omega)]
  obtain ⟨p1, q1, e1, r1, v1, l1, u1⟩ := plus1_f hk (a := N) (b := d) (c := -hd l i) (e := 1) (P := d) (A := 7200) (C := 7200) ⟨hd0, by omega, Int.dvd_refl _, Int.one_dvd _, hd0, by omega, by omega, by omega, by omega, by omega, by omega, by omega, by omega⟩
  rw [e1, Option.bind_some]
  dsimp only
  have hq1 : 1 ≤ q1 := r1.1
  have hq1d : q1 ≤ d := Int.le_of_dvd (by omega) v1
  have m1 := mul_bd (A := 14400 * 12960000) (B := 1800) (a := p1) (b := (dv l (i + 1) - dv l i).natAbs) (by omega) (by omega) (by omega) (by omega)
  have m1' : -(14400 * 12960000 * 1800) ≤ p1 * (dv l (i + 1) - dv l i) ∧ p1 * (dv l (i + 1) - dv l i) ≤ 14400 * 12960000 * 1800 := by
    rcases Int.natAbs_eq (dv l (i + 1) - dv l i) with e | e
    · rw [e]; exact ⟨by omega, by omega⟩
    · rw [e, Int.mul_neg]; exact ⟨by omega, by omega⟩
  have m2 := prod_le (show 0 ≤ q1 by omega) (show q1 ≤ 12960000 by omega) (show 0 ≤ hd l (i + 1) - hd l i by omega) b2
  have m3 : 0 < q1 * (hd l (i + 1) - hd l i) := Int.mul_pos (by omega) (by omega)
  rw [w64 (x := p1 * (dv l (i + 1) - dv l i)) (by omega) (by omega), w64 (x := q1 * (hd l (i + 1) - hd l i)) (by omega) (by omega)]
  obtain ⟨s1, s2, e2, r2, _⟩ := plain_f (k := k) (by omega) (n := p1 * (dv l (i + 1) - dv l i)) (d := q1 * (hd l (i + 1) - hd l i)) (by omega) (by omega) (by omega) (by omega) (by omega)
  rw [e2, Option.bind_some]
  dsimp only
  have v2 : s2 ∣ devD l i d := isR_dvd r2 (by rw [hL, Int.mul_comm q1]; exact Int.mul_dvd_mul_left _ v1)
  have hs2 : 1 ≤ s2 := r2.1
  have bs : -(25920000 * s2) ≤ s1 ∧ s1 ≤ 25920000 * s2 := by
    refine isR_bd r2 (by omega) ?_ ?_
    · have a1 : -(14400 * q1 * 1800) ≤ p1 * (dv l (i + 1) - dv l i) := by
        have := mul_bd (A := 14400 * q1) (B := 1800) (a := p1) (b := (dv l (i + 1) - dv l i).natAbs) (by omega) (by omega) (by omega) (by omega)
        rcases Int.natAbs_eq (dv l (i + 1) - dv l i) with e | e
        · rw [e]; omega
        · rw [e, Int.mul_neg]; omega
      have a2 : q1 * 1 ≤ q1 * (hd l (i + 1) - hd l i) := Int.mul_le_mul_of_nonneg_left b1 (by omega)
      omega
    · have a1 : p1 * (dv l (i + 1) - dv l i) ≤ 14400 * q1 * 1800 := by
        have := mul_bd (A := 14400 * q1) (B := 1800) (a := p1) (b := (dv l (i + 1) - dv l i).natAbs) (by omega) (by omega) (by omega) (by omega)
        rcases Int.natAbs_eq (dv l (i + 1) - dv l i) with e | e
        · rw [e]; omega
        · rw [e, Int.mul_neg]; omega
      have a2 : q1 * 1 ≤ q1 * (hd l (i + 1) - hd l i) := Int.mul_le_mul_of_nonneg_left b1 (by omega)
      omega
  obtain ⟨p, q, e3, r3, v3, _⟩ := plus1_f hk (a := dv l i) (b := 1) (c := s1) (e := s2) (P := devD l i d) (A := 900) (C := 25920000) ⟨by omega, hs2, Int.one_dvd _, v2, by rw [hL]; exact hP1, by rw [hL]; omega, by omega, by omega, bs.1, bs.2, by omega, by omega, by rw [hL]; omega⟩
  refine ⟨p, q, e3, isR_conv (by omega) r3 ?_, v3⟩
  -- (dv s2 + s1) / s2 is the deviation
  obtain ⟨_, _, f1⟩ := r1
  obtain ⟨_, _, f2⟩ := r2
  unfold devN devD
  generalize hd l (i + 1) - hd l i = L at *
  generalize dv l (i + 1) - dv l i = D at *
  generalize hd l i = H at *
  generalize dv l i = V at *
  have g1 : p1 * d = (N - H * d) * q1 := by rw [show p1 * (d * 1) = p1 * d by grind] at f1; rw [f1]; grind
  have g2 : s1 * (q1 * L) = p1 * D * s2 := f2
  -- s1 * L * d = (N - H d) D s2
  have g3 : s1 * (L * d) = (N - H * d) * D * s2 := by
    have hne : q1 ≠ 0 := by omega
    refine Int.eq_of_mul_eq_mul_left hne ?_
    have x1 : q1 * (s1 * (L * d)) = s1 * (q1 * L) * d := by grind
    have x2 : q1 * ((N - H * d) * D * s2) = (N - H * d) * q1 * D * s2 := by grind
    rw [x1, x2, g2, ← g1]; grind
  have x3 : (V * s2 + s1 * 1) * (L * d) = V * s2 * (L * d) + s1 * (L * d) := by grind
  rw [x3, g3]; grind
end Go.Proofs.Ytccjefoejjnccaa.M
