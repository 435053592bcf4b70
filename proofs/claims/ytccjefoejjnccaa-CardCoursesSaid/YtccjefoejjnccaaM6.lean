/- What is proved here: the compass courses on a segment, reckoned by the program and by the reference, are the exact ones. -/
import Derived.Test.YtccjefoejjnccaaM5
import Derived.Test.YtccjefoejjnccaaC12
namespace Go.Proofs.Ytccjefoejjnccaa.M
open Go.Proofs.Ytccjefoejjnccaa Go.RowKit Go.Proofs.Ytccjefoejjnccaa.C Go.Proofs.Ytccjefoejjnccaa.H Go.Proofs.YtccjefoejjnccaaW.PrintWords Go.Proofs.YtccjefoejjnccaaW.PrintLast Go.Proofs.YtccjefoejjnccaaW.PrintMore
set_option linter.unusedSimpArgs false
set_option linter.unusedVariables false
/-- A magnetic course is met on segment i: its beginning counts, its end does not. -/
def inSeg (l : List S55) (i : Nat) (m : Int) : Bool := decide (cr l i ≤ m ∧ m < cr l (i + 1) ∨ cr l (i + 1) < m ∧ m ≤ cr l i)
/-- The compass course there: a fraction, not reduced, up to a turn too great. -/
def crsN (l : List S55) (i : Nat) (m : Int) : Int := hd l i * (cr l (i + 1) - cr l i) + (m - cr l i) * (hd l (i + 1) - hd l i)
def crsD (l : List S55) (i : Nat) : Int := cr l (i + 1) - cr l i
/-- It reduced, and brought back into a turn. -/
def CrsIs (l : List S55) (i : Nat) (m p q : Int) : Prop := ∃ p0, IsR p0 q (crsN l i m) (crsD l i) ∧ p = p0 % (3600 * q)
theorem inSeg_iff {l : List S55} {i : Nat} {m : Int} : inSeg l i m = true ↔ cr l i ≤ m ∧ m < cr l (i + 1) ∨ cr l (i + 1) < m ∧ m ≤ cr l i := by
  unfold inSeg
  rw [decide_eq_true_eq]
theorem abs_mul_le {a b A B : Int} (h1 : a.natAbs ≤ A) (h2 : 0 ≤ b) (h3 : b ≤ B) : -(A * B) ≤ a * b ∧ a * b ≤ A * B := mul_bd (by omega) (by omega) h2 h3
/-- What both compute of a hit. -/
theorem hit_parts {l : List S55} (h : Valid l) {i : Nat} (hi : i < l.length) {m : Int} (hm : inSeg l i m = true) :
    crsD l i ≠ 0 ∧ -5400 ≤ crsD l i ∧ crsD l i ≤ 5400 ∧ -5400 ≤ m - cr l i ∧ m - cr l i ≤ 5400 ∧ -20000000 ≤ (m - cr l i) * (hd l (i + 1) - hd l i) ∧ (m - cr l i) * (hd l (i + 1) - hd l i) ≤ 20000000 ∧
    ∀ t1 t2, IsR t1 t2 ((m - cr l i) * (hd l (i + 1) - hd l i)) (crsD l i) → 0 ≤ t1 ∧ t1 < (hd l (i + 1) - hd l i) * t2 ∧ Fit t1 t2 (hd l i) 1 (crsD l i).natAbs 3600 3600 ∧ Fit (hd l i) 1 t1 t2 (crsD l i).natAbs 3600 3600 ∧
      ∀ p0 q, IsR p0 q (t1 * 1 + hd l i * t2) t2 → IsR p0 q (crsN l i m) (crsD l i) ∧ q ∣ ((crsD l i).natAbs : Int) ∧ q ≤ 5400 ∧ 0 ≤ p0 ∧ p0 < 7200 * q ∧ hd l i * q ≤ p0 ∧ p0 < hd l (i + 1) * q := by
  obtain ⟨b1, b2, b3, b4, b5, b6⟩ := h.len hi
  have c1 := h.dr i
  have c2 := h.dr (i + 1)
  have hR : crsD l i = (hd l (i + 1) - hd l i) + (dv l (i + 1) - dv l i) := by unfold crsD cr; omega
  rw [inSeg_iff] at hm
  have hD : crsD l i = cr l (i + 1) - cr l i := rfl
  have m1 := abs_mul_le (a := m - cr l i) (A := 5400) (b := hd l (i + 1) - hd l i) (B := 3600) (by omega) (by omega) (by omega)
  refine ⟨by omega, by omega, by omega, by omega, by omega, by omega, by omega, fun t1 t2 ht => ?_⟩
  generalize hL : hd l (i + 1) - hd l i = L at *
  generalize hR' : crsD l i = R at *
  generalize hu : m - cr l i = u at *
  have ht' := ht
  obtain ⟨ht2, htc, hte⟩ := ht
  have v2 : t2 ∣ R := isR_dvd ht' (Int.dvd_refl _)
  have hR0 : R ≠ 0 := by omega
  have hur : 0 ≤ u ∧ u < R ∨ R < u ∧ u ≤ 0 := by omega
  have ht0 : 0 ≤ t1 ∧ t1 < L * t2 := by
    rcases hur with ⟨h1, h2⟩ | ⟨h1, h2⟩
    · have n1 : 0 ≤ u * L := Int.mul_nonneg h1 (by omega)
      have n2 : u * L < L * R := by rw [Int.mul_comm]; exact Int.mul_lt_mul_of_pos_left h2 (by omega)
      constructor
      · have := isR_bd (A := 0) (p := -t1) (q := t2) (n := -(u * L)) (d := R) ⟨ht2, by rw [Int.neg_gcd]; exact htc, by grind⟩ (by omega)
        by_cases hneg : t1 < 0
        · have : t1 * R < 0 := Int.mul_neg_of_neg_of_pos hneg (by omega)
          have : 0 ≤ u * L * t2 := Int.mul_nonneg n1 (by omega)
          omega
        · omega
      · exact (isR_lt ht' (by omega) L).2 n2
    · have hflip : IsR t1 t2 ((-u) * L) (-R) := isR_conv hR0 ht' (by grind)
      have n1 : 0 ≤ (-u) * L := Int.mul_nonneg (by omega) (by omega)
      have n2 : (-u) * L < L * (-R) := by rw [Int.mul_comm]; exact Int.mul_lt_mul_of_pos_left (by omega) (by omega)
      constructor
      · by_cases hneg : t1 < 0
        · have e := hflip.2.2
          have : t1 * (-R) < 0 := Int.mul_neg_of_neg_of_pos hneg (by omega)
          have : 0 ≤ (-u) * L * t2 := Int.mul_nonneg n1 (by omega)
          omega
        · omega
      · exact (isR_lt hflip (by omega) L).2 n2
  have hLt : L * t2 ≤ 3600 * t2 := Int.mul_le_mul_of_nonneg_right b2 (by omega)
  have vP : t2 ∣ (R.natAbs : Int) := by
    rw [← Int.natAbs_dvd_natAbs] at v2 ⊢
    simpa using v2
  have hP : 1 ≤ (R.natAbs : Int) := by omega
  refine ⟨ht0.1, ht0.2, ⟨ht2, by omega, vP, Int.one_dvd _, hP, by omega, by omega, by omega, by omega, by omega, by omega, by omega, by omega⟩, ⟨by omega, ht2, Int.one_dvd _, vP, hP, by omega, by omega, by omega, by omega, by omega, by omega, by omega, by omega⟩, fun p0 q hr => ?_⟩
  have hq := hr.1
  have vq : q ∣ (R.natAbs : Int) := isR_dvd hr vP
  have qle : q ≤ 5400 := Int.le_trans (Int.le_of_dvd (by omega) vq) (by omega)
  have hlo : hd l i * q ≤ p0 := by
    have := isR_lt hr ht2 (hd l i)
    have : ¬ (t1 * 1 + hd l i * t2 < hd l i * t2) := by omega
    omega
  have hup : p0 < hd l (i + 1) * q := by
    refine (isR_lt hr ht2 _).2 ?_
    have : hd l (i + 1) * t2 = hd l i * t2 + L * t2 := by rw [← hL]; grind
    omega
  have z0 : 0 ≤ hd l i * q := Int.mul_nonneg b5 (by omega)
  have z1 : hd l (i + 1) * q ≤ 7200 * q := Int.mul_le_mul_of_nonneg_right (by omega) (by omega)
  refine ⟨isR_conv (by omega) hr ?_, vq, qle, by omega, by omega, hlo, hup⟩
  unfold crsN
  rw [hL, hu, ← hD]
  have e1 : (t1 * 1 + hd l i * t2) * R = t1 * R + hd l i * t2 * R := by grind
  rw [e1, hte]; grind
theorem courseAt_f {l : List S55} (h : Valid l) {i : Nat} (hi : i < l.length) {k : Nat} (hk : 132 ≤ k) {m : Int} (hm : inSeg l i m = true) :
    ∃ p q, courseAt k (seg l i) m = some (p, q) ∧ CrsIs l i m p q ∧ 1 ≤ q ∧ q ≤ 5400 ∧ 0 ≤ p ∧ p < 3600 * q ∧ Int.gcd p q = 1 := by
  obtain ⟨hD0, d1, d2, u1, u2, n1, n2, hx⟩ := hit_parts h hi hm
  unfold courseAt
  rw [seg_eq h hi]
  dsimp only
  have e1 : m - (hd l i + dv l i) = m - cr l i := rfl
  have e2 : hd l (i + 1) + dv l (i + 1) - (hd l i + dv l i) = crsD l i := rfl
  rw [e1, e2, w64 (by omega) (by omega)]
  obtain ⟨t1, t2, ht, hr, _⟩ := plain_f (k := k) (by omega) (n := (m - cr l i) * (hd l (i + 1) - hd l i)) (d := crsD l i) (by omega) (by omega) (by omega) (by omega) hD0
  obtain ⟨_, _, hf, _, hp⟩ := hx t1 t2 hr
  obtain ⟨p0, q, hs, hr2, _⟩ := plus1_f hk hf
  rw [Int.mul_one] at hr2
  rw [ht, Option.bind_some, hs, Option.bind_some]
  obtain ⟨g1, g2, g3, g4, g5, _⟩ := hp p0 q (by rw [Int.mul_one]; exact (by rw [Int.mul_one] at hr2; exact hr2))
  have hq := hr2.1
  rw [around_f hq (by omega) (by omega) (by omega)]
  have ha := isR_around hr2
  have m0 := Int.emod_nonneg p0 (b := 3600 * q) (by omega)
  have m1 := Int.emod_lt_of_pos p0 (b := 3600 * q) (by omega)
  exact ⟨_, _, rfl, ⟨p0, g1, rfl⟩, hq, g3, m0, m1, ha.2.1⟩
theorem CrsIs.same {l : List S55} {i : Nat} {m p q p' q' : Int} (hd0 : crsD l i ≠ 0) (h : CrsIs l i m p q) (h' : CrsIs l i m p' q') : p = p' ∧ q = q' := by
  obtain ⟨a, h1, rfl⟩ := h
  obtain ⟨b, h2, rfl⟩ := h'
  obtain ⟨rfl, rfl⟩ := isR_unique hd0 h1 h2
  exact ⟨rfl, rfl⟩
/-- The reduced fraction of a hit, by name. -/
def crs (l : List S55) (i : Nat) (m : Int) : S101 := match card_ratio_plain.f 200 (crsN l i m) (crsD l i) with
  | some (p, q) => ⟨p % (3600 * q), q⟩
  | none => z101
theorem crs_eq {l : List S55} (h : Valid l) {i : Nat} (hi : i < l.length) {m p q : Int} (hm : inSeg l i m = true) (hc : CrsIs l i m p q) : crs l i m = ⟨p, q⟩ := by
  obtain ⟨hD0, d1, d2, u1, u2, n1, n2, hx⟩ := hit_parts h hi hm
  obtain ⟨b1, b2, b3, b4, b5, b6⟩ := h.len hi
  have e : crsN l i m = hd l i * crsD l i + (m - cr l i) * (hd l (i + 1) - hd l i) := rfl
  have k1 := abs_mul_le (a := crsD l i) (A := 5400) (b := hd l i) (B := 3600) (by omega) (by omega) (by omega)
  have k2 : hd l i * crsD l i = crsD l i * hd l i := Int.mul_comm _ _
  obtain ⟨p', q', e1, r1, _⟩ := plain_f (k := 200) (by omega) (n := crsN l i m) (d := crsD l i) (by omega) (by omega) (by omega) (by omega) hD0
  unfold crs
  rw [e1]
  obtain ⟨rfl, rfl⟩ := CrsIs.same hD0 ⟨p', r1, rfl⟩ hc
  rfl
theorem courseAt_crs {l : List S55} (h : Valid l) {i : Nat} (hi : i < l.length) {k : Nat} (hk : 132 ≤ k) {m : Int} (hm : inSeg l i m = true) :
    courseAt k (seg l i) m = some ((crs l i m).f0, (crs l i m).f1) ∧ CrsIs l i m (crs l i m).f0 (crs l i m).f1 ∧ 1 ≤ (crs l i m).f1 ∧ (crs l i m).f1 ≤ 5400 ∧ 0 ≤ (crs l i m).f0 ∧ (crs l i m).f0 < 3600 * (crs l i m).f1 ∧ Int.gcd (crs l i m).f0 (crs l i m).f1 = 1 := by
  obtain ⟨p, q, e, hc, r⟩ := courseAt_f h hi hk hm
  rw [crs_eq h hi hm hc]
  exact ⟨e, hc, r⟩
end Go.Proofs.Ytccjefoejjnccaa.M
