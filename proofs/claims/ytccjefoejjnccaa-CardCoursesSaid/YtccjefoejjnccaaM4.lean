/- What is proved here: the deviation on a fraction is the exact one, of the program and of the reference. -/
import Derived.Test.YtccjefoejjnccaaM3
namespace Go.Proofs.Ytccjefoejjnccaa.M
open Go.Proofs.Ytccjefoejjnccaa Go.RowKit Go.Proofs.Ytccjefoejjnccaa.C Go.Proofs.Ytccjefoejjnccaa.H Go.Proofs.YtccjefoejjnccaaW.PrintWords Go.Proofs.YtccjefoejjnccaaW.PrintLast Go.Proofs.YtccjefoejjnccaaW.PrintMore
set_option linter.unusedSimpArgs false
set_option linter.unusedVariables false
theorem cmp3_neg (a b : Int) : (cmp3 a b < 0) = (a < b) := by
  unfold cmp3
  apply propext
  split
  · omega
  · split <;> omega
theorem segTest_f {l : List S55} (h : Valid l) {i : Nat} (hi : i < l.length) {N d : Int} (hd0 : 1 ≤ d) (hd1 : d ≤ 12960000) (hN0 : 0 ≤ N) (hN1 : N ≤ 7200 * d) : segTest N d (seg l i) = decide (N < hd l (i + 1) * d) := by
  obtain ⟨b1, b2, b3, b4, b5, b6⟩ := h.len hi
  have hP := prod_le b6 (show hd l (i + 1) ≤ 7200 by omega) (show 0 ≤ d by omega) hd1
  unfold segTest
  rw [seg_eq h hi]
  simp only [cmp3_neg]
  rw [w64 (by omega) (by omega), w64 (by omega) (by omega)]
/-- What the deviation of a fraction is. -/
structure DevIs (l : List S55) (N d p q : Int) (i : Nat) : Prop where
  hi : i < l.length
  lo : hd l i * d ≤ N
  hi' : N < hd l (i + 1) * d
  is : IsR p q (devN l i N d) (devD l i d)
theorem devD_pos {l : List S55} (h : Valid l) {i : Nat} (hi : i < l.length) {d : Int} (hd0 : 1 ≤ d) : 1 ≤ devD l i d := by
  obtain ⟨b1, b2, b3, b4, b5, b6⟩ := h.len hi
  have : 0 < (hd l (i + 1) - hd l i) * d := Int.mul_pos (by omega) (by omega)
  unfold devD
  omega
theorem devIn_f {l : List S55} (h : Valid l) {k : Nat} (hk : 132 ≤ k) {N d : Int} (hd0 : 1 ≤ d) (hd1 : d ≤ 12960000) (hN0 : hd l 0 * d ≤ N) (hN1 : N < hd l l.length * d) :
    ∃ p q i, devIn k l N d = some (p, q) ∧ DevIs l N d p q i := by
  obtain ⟨i, hi, lo, up⟩ := find_seg h hd0 hN0 l.length (Nat.le_refl _) hN1
  have h00 := (h.hr 0 h.pos).1
  have hl := h.last
  have h01 := (h.hr 0 h.pos).2
  have z0 : 0 ≤ N := by
    have : 0 ≤ hd l 0 * d := Int.mul_nonneg h00 (by omega)
    omega
  have z1 : N ≤ 7200 * d := by
    have : hd l l.length * d ≤ 7200 * d := Int.mul_le_mul_of_nonneg_right (by omega) (by omega)
    omega
  obtain ⟨p, q, e, r, _⟩ := devAt_f h hi hk hd0 hd1 z0 z1
  refine ⟨p, q, i, ?_, hi, lo, up, r⟩
  unfold devIn
  have hall : (segs l).all (fun x => (devAt k N d x).isSome) = true := by
    rw [List.all_eq_true]
    intro x hx
    obtain ⟨j, hj, rfl⟩ := segs_mem hx
    obtain ⟨p, q, e, _⟩ := devAt_f h hj hk hd0 hd1 z0 z1
    rw [e]; rfl
  rw [if_pos hall]
  have hf : (segs l).find? (segTest N d) = some (seg l i) := by
    unfold segs
    rw [List.find?_map, (List.find?_range_eq_some (i := i)).2 ⟨?_, ?_, ?_⟩]
    · rfl
    · show segTest N d (seg l i) = true
      rw [segTest_f h hi hd0 hd1 z0 z1]
      exact decide_eq_true up
    · exact List.mem_range.2 hi
    · intro j hj
      show (!segTest N d (seg l j)) = true
      rw [segTest_f h (by omega) hd0 hd1 z0 z1, decide_eq_false (seg_first h hd0 hi lo j hj)]
      rfl
  rw [hf]
  exact e
/-- A fraction of a turn, a turn later where it lies before the first point. -/
def inTurn (l : List S55) (N d : Int) : Int := if N < hd l 0 * d then N + 3600 * d else N
theorem inTurn_lo {l : List S55} (h : Valid l) {N d : Int} (hd0 : 1 ≤ d) (hN0 : 0 ≤ N) (hN1 : N < 3600 * d) : hd l 0 * d ≤ inTurn l N d ∧ inTurn l N d < hd l l.length * d := by
  have h0 := h.hr 0 h.pos
  have hl := h.last.1
  have e : hd l l.length * d = hd l 0 * d + 3600 * d := by rw [hl]; grind
  have h1 : 0 ≤ hd l 0 * d := Int.mul_nonneg h0.1 (by omega)
  have h2 : hd l 0 * d ≤ 3600 * d := Int.mul_le_mul_of_nonneg_right (by omega) (by omega)
  unfold inTurn
  split <;> omega
theorem dev_f {l : List S55} (h : Valid l) {k : Nat} (hk : 132 ≤ k) {N d : Int} (hd0 : 1 ≤ d) (hd1 : d ≤ 12960000) (hN0 : 0 ≤ N) (hN1 : N < 3600 * d) :
    ∃ p q i, card_Card_deviation.f k l N d = some (p, q) ∧ DevIs l (inTurn l N d) d p q i := by
  have h0 := h.hr 0 h.pos
  have hle := h.le
  have hp := h.pos
  have hl := h.last.1
  have hP := prod_le h0.1 (show hd l 0 ≤ 3600 by omega) (show 0 ≤ d by omega) hd1
  have hrd : (rd_T55 l 0).f0 = hd l 0 := by unfold hd; rw [if_pos h.pos]; rfl
  have hlo := inTurn_lo h hd0 hN0 hN1
  unfold card_Card_deviation.f
  rw [if_pos ⟨h.pos, by omega⟩, hrd]
  simp only [cmp3_neg]
  rw [w64 (x := N) (by omega) (by omega), w64 (x := hd l 0 * d) (by omega) (by omega)]
  by_cases hc : N < hd l 0 * d
  · rw [if_pos hc]
    obtain ⟨p1, q1, e1, r1, v1, l1, u1⟩ := plus1_f hk (a := N) (b := d) (c := 3600) (e := 1) (P := d) (A := 3600) (C := 3600) ⟨hd0, by omega, Int.dvd_refl _, Int.one_dvd _, hd0, by omega, by omega, by omega, by omega, by omega, by omega, by omega, by omega⟩
    rw [e1, Option.bind_some]
    have hit : inTurn l N d = N + 3600 * d := by unfold inTurn; rw [if_pos hc]
    rw [hit] at hlo ⊢
    have r1' : IsR p1 q1 (N + 3600 * d) d := by
      have : N * 1 + 3600 * d = N + 3600 * d := by omega
      rw [this, Int.mul_one] at r1; exact r1
    have hq1 := r1.1
    have hq1d : q1 ≤ d := Int.le_of_dvd (by omega) v1
    have t1 := isR_lt r1' hd0
    obtain ⟨p, q, i, e, hi, lo, up, is⟩ := devIn_f h hk (N := p1) (d := q1) hq1 (by omega) (by have := t1 (hd l 0); omega) ((t1 _).2 hlo.2)
    refine ⟨p, q, i, e, hi, (by have := t1 (hd l i); omega), (t1 _).1 up, isR_conv (by have := devD_pos h hi hq1; omega) is ?_⟩
    obtain ⟨_, _, f1⟩ := r1'
    have g : devN l i p1 q1 * d = devN l i (N + 3600 * d) d * q1 := by
      unfold devN
      generalize hd l (i + 1) - hd l i = L at *
      generalize dv l (i + 1) - dv l i = D at *
      have e1 : (dv l i * (L * q1) + (p1 - hd l i * q1) * D) * d = dv l i * (L * q1) * d + (p1 * d - hd l i * q1 * d) * D := by grind
      rw [e1, f1]; grind
    unfold devD
    have e2 : devN l i p1 q1 * ((hd l (i + 1) - hd l i) * d) = devN l i p1 q1 * d * (hd l (i + 1) - hd l i) := by grind
    rw [e2, g]; grind
  · rw [if_neg hc]
    have hit : inTurn l N d = N := by unfold inTurn; rw [if_neg hc]
    rw [hit] at hlo ⊢
    exact devIn_f h hk hd0 hd1 hlo.1 hlo.2
theorem DevIs.same {l : List S55} (h : Valid l) {N d p q p' q' : Int} {i j : Nat} (hd0 : 1 ≤ d) (hx : DevIs l N d p q i) (hy : DevIs l N d p' q' j) : p = p' ∧ q = q' ∧ i = j := by
  have hij : i = j := by
    rcases Nat.lt_trichotomy i j with h1 | h1 | h1
    · exact absurd hx.hi' (seg_first h hd0 hy.hi hy.lo i h1)
    · exact h1
    · exact absurd hy.hi' (seg_first h hd0 hx.hi hx.lo j h1)
  subst hij
  obtain ⟨e1, e2⟩ := isR_unique (by have := devD_pos h hx.hi hd0; omega) hx.is hy.is
  exact ⟨e1, e2, rfl⟩
-- the reference
theorem rseg_f {l : List S55} (h : Valid l) {i : Nat} (hi : i < l.length) : agonicref05_segment.f (l.map cv) (i : Int) = some (hd l i, dv l i, hd l (i + 1), dv l (i + 1)) := by
  have h0 := h.hr 0 h.pos
  have hp := h.pos
  have hle := h.le
  have e0 : hd l 0 = (l.getD 0 z55).f0 := by unfold hd; rw [if_pos h.pos]
  have e1 : hd l i = l[i].f0 := by unfold hd; rw [if_pos hi, getD_lt hi]
  have e2 : dv l i = l[i].f1 := by unfold dv; rw [if_pos hi, getD_lt hi]
  unfold agonicref05_segment.f
  rw [List.length_map, w64 (by omega) (by omega), rd_cv hi]
  by_cases hl : i + 1 < l.length
  · have e3 : hd l (i + 1) = l[i + 1].f0 := by unfold hd; rw [if_pos hl, getD_lt hl]
    have e4 : dv l (i + 1) = l[i + 1].f1 := by unfold dv; rw [if_pos hl, getD_lt hl]
    rw [if_pos (by omega), if_pos (by omega), if_pos (by omega), if_pos (by omega), show ((i : Int) + 1) = ((i + 1 : Nat) : Int) by omega, rd_cv hl, e1, e2, e3, e4]
    rfl
  · have er : rd_T54 (l.map cv) 0 = cv l[0] := rd_cv (i := 0) (by omega)
    have e5 : hd l (i + 1) = l[0].f0 + 3600 := by unfold hd; rw [if_neg hl, getD_lt (by omega)]
    have e6 : dv l (i + 1) = l[0].f1 := by unfold dv; rw [if_neg hl, getD_lt (by omega)]
    have e7 : hd l 0 = l[0].f0 := by rw [e0, getD_lt (by omega)]
    rw [if_neg (by omega), if_pos (by omega), if_pos (by omega), if_pos (by omega), er, e1, e2, e5, e6]
    show some (l[i].f0, l[i].f1, wrap64 (l[0].f0 + 3600), l[0].f1) = _
    rw [w64 (by omega) (by omega)]
theorem whole_f (a : Int) : agonicref05_whole.f a = some (a, 1) := rfl
theorem rdev_l {l : List S55} (h : Valid l) {N d : Int} (hd0 : 1 ≤ d) (hd1 : d ≤ 12960000) (hlo : hd l 0 * d ≤ N) (hup : N < hd l l.length * d) {j : Nat} (hj : j < l.length) (jlo : hd l j * d ≤ N) (jup : N < hd l (j + 1) * d) :
    ∀ (n : Nat) (i : Nat) (k : Nat), i + n = j → 2 * n + 140 ≤ k → ∃ p q, agonicref05_deviation.l0 k (l.map cv) (i : Int) N d = some (p, q) ∧ DevIs l N d p q j := by
  have h00 := (h.hr 0 h.pos).1
  have hl := h.last
  have h01 := (h.hr 0 h.pos).2
  have hle := h.le
  have z0 : 0 ≤ N := by
    have : 0 ≤ hd l 0 * d := Int.mul_nonneg h00 (by omega)
    omega
  have z1 : N ≤ 7200 * d := by
    have : hd l l.length * d ≤ 7200 * d := Int.mul_le_mul_of_nonneg_right (by omega) (by omega)
    omega
  have less : ∀ i, i ≤ l.length → agonicref01_Less.f N d (hd l i) 1 = some (decide (N < hd l i * d)) := by
    intro i hi
    have h1 := h.mono' (show 0 ≤ i by omega) hi
    have h2 := h.mono' hi (Nat.le_refl _)
    have hP := prod_le (show 0 ≤ hd l i by omega) (show hd l i ≤ 7200 by omega) (show 0 ≤ d by omega) hd1
    rw [less_f (by omega) (by omega) (by omega) (by omega), Int.mul_one]
  intro n
  induction n with
  | zero =>
    intro i k hi hk
    obtain rfl : i = j := by omega
    obtain ⟨k, rfl⟩ : ∃ k', k = k' + 2 := ⟨k - 2, by omega⟩
    obtain ⟨b1, b2, b3, b4, b5, b6⟩ := h.len hj
    have c1 := h.dr i
    have c2 := h.dr (i + 1)
    unfold agonicref05_deviation.l0
    rw [List.length_map, if_pos (by omega), rseg_f h hj, Option.bind_some, whole_f, Option.bind_some]
    dsimp only
    rw [less i (by omega), Option.bind_some, if_neg (by simp only [decide_eq_true_eq]; omega), whole_f, Option.bind_some]
    dsimp only
    rw [less (i + 1) (by omega), Option.bind_some, decide_eq_true jup]
    unfold agonicref05_deviation.j2
    have hL : devD l i d = (hd l (i + 1) - hd l i) * d := rfl
    have hP := prod_le (show 0 ≤ hd l (i + 1) - hd l i by omega) b2 (show 0 ≤ d by omega) hd1
    have hD := devD_pos h hj hd0
    have hH := prod_le b5 (show hd l i ≤ 3600 by omega) (show 0 ≤ d by omega) hd1
    have m1 : -(1800 * ((hd l (i + 1) - hd l i) * d)) ≤ (dv l (i + 1) - dv l i) * (N - hd l i * d) ∧ (dv l (i + 1) - dv l i) * (N - hd l i * d) ≤ 1800 * ((hd l (i + 1) - hd l i) * d) := by
      refine mul_bd (by omega) (by omega) (by omega) ?_
      have : (hd l (i + 1) - hd l i) * d = hd l (i + 1) * d - hd l i * d := by grind
      omega
    rw [if_neg (by decide), w64 (x := dv l (i + 1) - dv l i) (by omega) (by omega), w64 (x := hd l i * d) (by omega) (by omega), w64 (x := N - hd l i * d) (by omega) (by omega), w64 (x := hd l (i + 1) - hd l i) (by omega) (by omega), w64 (x := (hd l (i + 1) - hd l i) * d) (by omega) (by omega), w64 (x := (dv l (i + 1) - dv l i) * (N - hd l i * d)) (by omega) (by omega), ref_red]
    obtain ⟨s1, s2, e2, r2, _⟩ := plain_f (k := k) (by omega) (n := (dv l (i + 1) - dv l i) * (N - hd l i * d)) (d := (hd l (i + 1) - hd l i) * d) (by omega) (by omega) (by omega) (by omega) (by omega)
    rw [e2, Option.bind_some, whole_f, Option.bind_some]
    have bs := isR_bd (A := 1800) r2 (by omega) m1.1 m1.2
    obtain ⟨p, q, e3, r3, v3, _⟩ := ref_plus (k := k) (by omega) (a := dv l i) (b := 1) (c := s1) (e := s2) (P := devD l i d) (A := 900) (C := 1800) ⟨by omega, r2.1, Int.one_dvd _, isR_dvd r2 (Int.dvd_refl _), hD, by omega, by omega, by omega, bs.1, bs.2, by omega, by omega, by omega⟩
    dsimp only
    rw [e3, Option.bind_some]
    refine ⟨p, q, rfl, hj, jlo, jup, isR_conv (by have := r2.1; omega) r3 ?_⟩
    obtain ⟨_, _, f2⟩ := r2
    unfold devN devD
    have x3 : (dv l i * s2 + s1 * 1) * ((hd l (i + 1) - hd l i) * d) = dv l i * s2 * ((hd l (i + 1) - hd l i) * d) + s1 * ((hd l (i + 1) - hd l i) * d) := by grind
    rw [x3, f2]; grind
  | succ n ih =>
    intro i k hi hk
    obtain ⟨k, rfl⟩ : ∃ k', k = k' + 2 := ⟨k - 2, by omega⟩
    obtain ⟨p, q, e, r⟩ := ih (i + 1) k (by omega) (by omega)
    refine ⟨p, q, ?_, r⟩
    unfold agonicref05_deviation.l0
    rw [List.length_map, if_pos (by omega), rseg_f h (by omega), Option.bind_some, whole_f, Option.bind_some]
    dsimp only
    rw [less i (by omega), Option.bind_some]
    have hij := Int.mul_le_mul_of_nonneg_right (h.mono' (show i ≤ j by omega) (by omega)) (show 0 ≤ d by omega)
    have hij' := Int.mul_le_mul_of_nonneg_right (h.mono' (show i + 1 ≤ j by omega) (by omega)) (show 0 ≤ d by omega)
    rw [if_neg (by simp only [decide_eq_true_eq]; omega), whole_f, Option.bind_some]
    dsimp only
    rw [less (i + 1) (by omega), Option.bind_some, decide_eq_false (by omega)]
    unfold agonicref05_deviation.j2
    rw [if_pos (by decide), w64 (by omega) (by omega)]
    exact e
theorem rdev_f {l : List S55} (h : Valid l) {k : Nat} (hk : 220 ≤ k) {N d : Int} (hd0 : 1 ≤ d) (hd1 : d ≤ 12960000) (hN0 : 0 ≤ N) (hN1 : N < 3600 * d) :
    ∃ p q i, agonicref05_deviation.f k (l.map cv) N d = some (p, q) ∧ DevIs l (inTurn l N d) d p q i := by
  have h0 := h.hr 0 h.pos
  have hp := h.pos
  have hle := h.le
  have hP := prod_le h0.1 (show hd l 0 ≤ 3600 by omega) (show 0 ≤ d by omega) hd1
  have hlo := inTurn_lo h hd0 hN0 hN1
  obtain ⟨i, hi, lo, up⟩ := find_seg h hd0 hlo.1 l.length (Nat.le_refl _) hlo.2
  obtain ⟨k, rfl⟩ : ∃ k', k = k' + 1 := ⟨k - 1, by omega⟩
  obtain ⟨p, q, e, r⟩ := rdev_l h hd0 hd1 hlo.1 hlo.2 hi lo up i 0 k (by omega) (by omega)
  refine ⟨p, q, i, ?_, r⟩
  unfold agonicref05_deviation.f
  have er : (rd_T54 (l.map cv) 0).f0 = hd l 0 := by
    rw [show (0 : Int) = ((0 : Nat) : Int) from rfl, rd_cv hp]
    unfold hd; rw [if_pos hp, getD_lt hp]; rfl
  have e' : agonicref05_deviation.j0 (k + 1) (l.map cv) (inTurn l N d) d = some (p, q) := by
    unfold agonicref05_deviation.j0; exact e
  rw [List.length_map, if_pos (by omega), er, whole_f, Option.bind_some]
  dsimp only
  rw [less_f (by omega) (by omega) (by omega) (by omega), Option.bind_some, Int.mul_one]
  unfold inTurn at e'
  by_cases hc : N < hd l 0 * d
  · rw [if_pos hc] at e'
    rw [if_pos (decide_eq_true hc), w64 (x := 3600 * d) (by omega) (by omega), w64 (by omega) (by omega)]
    exact e'
  · rw [if_neg hc] at e'
    rw [if_neg (by simpa using hc)]
    exact e'
/-- The program and the reference tell the same deviation. -/
theorem dev_same {l : List S55} (h : Valid l) {k : Nat} (hk : 220 ≤ k) {N d : Int} (hd0 : 1 ≤ d) (hd1 : d ≤ 12960000) (hN0 : 0 ≤ N) (hN1 : N < 3600 * d) :
    ∃ p q i, card_Card_deviation.f k l N d = some (p, q) ∧ agonicref05_deviation.f k (l.map cv) N d = some (p, q) ∧ DevIs l (inTurn l N d) d p q i := by
  obtain ⟨p, q, i, e, r⟩ := dev_f h (k := k) (by omega) hd0 hd1 hN0 hN1
  obtain ⟨p', q', i', e', r'⟩ := rdev_f h hk hd0 hd1 hN0 hN1
  obtain ⟨rfl, rfl, rfl⟩ := DevIs.same h hd0 r r'
  exact ⟨p, q, i, e, e', r⟩
end Go.Proofs.Ytccjefoejjnccaa.M
