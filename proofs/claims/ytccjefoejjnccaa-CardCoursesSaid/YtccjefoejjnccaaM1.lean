/- What is proved here: the greatest divisor, reduced fractions and their sums, as the program and the reference compute them. -/
import Derived.Test.YtccjefoejjnccaaC4
import Derived.Test.YtccjefoejjnccaaH5
import Derived.Test.YtccjefoejjnccaaC8
import Derived.Test.YtccjefoejjnccaaC9
import Derived.Test.YtccjefoejjnccaaC11
namespace Go.Proofs.Ytccjefoejjnccaa.M
open Go.Proofs.Ytccjefoejjnccaa Go.RowKit Go.Proofs.Ytccjefoejjnccaa.C Go.Proofs.YtccjefoejjnccaaW.PrintWords Go.Proofs.YtccjefoejjnccaaW.PrintLast Go.Proofs.YtccjefoejjnccaaW.PrintMore
theorem div_loop : ∀ (j : Nat) (a b : Nat) (k : Nat), b < 2 ^ j → 2 * j + 1 ≤ k → card_divisor.l0 k a b = some ((Nat.gcd a b : Nat) : Int)
  | 0, a, b, k, hb, hk => by
    obtain rfl : b = 0 := by omega
    obtain ⟨k, rfl⟩ : ∃ k', k = k' + 1 := ⟨k - 1, by omega⟩
    unfold card_divisor.l0
    simp
  | j + 1, a, b, k, hb, hk => by
    obtain ⟨k, rfl⟩ : ∃ k', k = k' + 2 := ⟨k - 2, by omega⟩
    unfold card_divisor.l0
    rcases Nat.eq_zero_or_pos b with rfl | hp
    · simp
    · rw [if_pos (by omega), if_neg (by omega)]
      have e1 : (a : Int).tmod b = ((a % b : Nat) : Int) := (Int.ofNat_tmod _ _).symm
      rw [e1]
      unfold card_divisor.l0
      have h1 : a % b < b := Nat.mod_lt _ hp
      rcases Nat.eq_zero_or_pos (a % b) with h0 | h0
      · rw [h0, if_neg (by omega), Nat.gcd_comm, Nat.gcd_rec, h0, Nat.gcd_zero_left]
      · rw [if_pos (by omega), if_neg (by omega)]
        have e2 : (b : Int).tmod ((a % b : Nat) : Int) = ((b % (a % b) : Nat) : Int) := (Int.ofNat_tmod _ _).symm
        have h2 : b % (a % b) < a % b := Nat.mod_lt _ h0
        have h3 : b % (a % b) + (a % b) ≤ b := by
          have := Nat.div_add_mod b (a % b)
          have h4 : 1 ≤ b / (a % b) := Nat.div_pos (Nat.le_of_lt h1) h0
          have h5 : a % b * 1 ≤ a % b * (b / (a % b)) := Nat.mul_le_mul_left _ h4
          omega
        rw [e2, div_loop j _ _ k (by rw [Nat.pow_succ] at hb; omega) (by omega)]
        rw [Nat.gcd_comm (a % b), ← Nat.gcd_rec, ← Nat.gcd_rec, Nat.gcd_comm]
theorem w64 {x : Int} (h1 : -9223372036854775808 ≤ x) (h2 : x < 9223372036854775808) : wrap64 x = x := by unfold wrap64; omega
theorem mx_neg (a : Int) (h1 : -4611686018427387904 ≤ a) (h2 : a ≤ 4611686018427387904) : mx a (wrap64 (-a)) = (a.natAbs : Int) := by
  rw [w64 (by omega) (by omega)]
  unfold mx
  split <;> omega
theorem divisor_f {k : Nat} (hk : 130 ≤ k) {a b : Int} (ha1 : -4611686018427387904 ≤ a) (ha2 : a ≤ 4611686018427387904) (hb1 : -4611686018427387904 ≤ b) (hb2 : b ≤ 4611686018427387904) :
    card_divisor.f k a b = some (Int.gcd a b : Int) := by
  unfold card_divisor.f
  rw [mx_neg a ha1 ha2, mx_neg b hb1 hb2, div_loop 64 _ _ k (by have : (2:Nat)^64 = 18446744073709551616 := rfl; omega) (by omega)]
  rfl
/-- (p, q) is the reduced form of n / d. -/
def IsR (p q n d : Int) : Prop := 1 ≤ q ∧ Int.gcd p q = 1 ∧ p * d = n * q
theorem isR_unique {p q p' q' n d : Int} (hd : d ≠ 0) (h : IsR p q n d) (h' : IsR p' q' n d) : p = p' ∧ q = q' := by
  obtain ⟨h1, h2, h3⟩ := h
  obtain ⟨h1', h2', h3'⟩ := h'
  refine H.frac_eq h1 h1' h2 h2' ?_
  have e : d * (p * q') = d * (p' * q) := by
    have e1 : d * (p * q') = n * q * q' := by rw [← h3]; grind
    have e2 : d * (p' * q) = n * q' * q := by rw [← h3']; grind
    rw [e1, e2]; grind
  exact Int.eq_of_mul_eq_mul_left hd e
theorem isR_conv {p q n d n' d' : Int} (hd : d ≠ 0) (h : IsR p q n d) (e : n * d' = n' * d) : IsR p q n' d' := by
  obtain ⟨h1, h2, h3⟩ := h
  refine ⟨h1, h2, Int.eq_of_mul_eq_mul_left hd ?_⟩
  have e1 : d * (p * d') = n * d' * q := by
    have : d * (p * d') = p * d * d' := by grind
    rw [this, h3]; grind
  rw [e1, e]; grind
theorem isR_dvd {p q n d P : Int} (h : IsR p q n d) (hd : d ∣ P) : q ∣ P := by
  obtain ⟨h1, h2, h3⟩ := h
  have h0 : q ∣ p * d := ⟨n, by rw [h3, Int.mul_comm]⟩
  rw [← Int.natAbs_dvd_natAbs, Int.natAbs_mul] at h0
  have h4 : Nat.Coprime q.natAbs p.natAbs := by rw [Nat.Coprime, Nat.gcd_comm]; exact h2
  exact Int.dvd_trans (Int.natAbs_dvd_natAbs.1 (h4.dvd_of_dvd_mul_left h0)) hd
theorem isR_bd {p q n d A : Int} (h : IsR p q n d) (hd : 1 ≤ d) (h1 : -(A * d) ≤ n) (h2 : n ≤ A * d) : -(A * q) ≤ p ∧ p ≤ A * q := by
  obtain ⟨hq, _, h3⟩ := h
  have e1 : n * q ≤ A * d * q := Int.mul_le_mul_of_nonneg_right h2 (by omega)
  have e2 : -(A * d) * q ≤ n * q := Int.mul_le_mul_of_nonneg_right h1 (by omega)
  constructor
  · have : -(A * q) * d ≤ p * d := by rw [h3]; have e : -(A * q) * d = -(A * d) * q := by grind
                                      rw [e]; exact e2
    exact Int.le_of_mul_le_mul_right this (by omega)
  · have : p * d ≤ A * q * d := by rw [h3]; have e : A * q * d = A * d * q := by grind
                                   rw [e]; exact e1
    exact Int.le_of_mul_le_mul_right this (by omega)
theorem isR_lt {p q n d : Int} (h : IsR p q n d) (hd : 1 ≤ d) (c : Int) : p < c * q ↔ n < c * d := by
  obtain ⟨hq, _, h3⟩ := h
  constructor
  · intro h
    have : p * d < c * q * d := Int.mul_lt_mul_of_pos_right h (by omega)
    rw [h3] at this
    have e : c * q * d = c * d * q := by grind
    rw [e] at this
    exact Int.lt_of_mul_lt_mul_right this (by omega)
  · intro h
    have : n * q < c * d * q := Int.mul_lt_mul_of_pos_right h (by omega)
    rw [← h3] at this
    have e : c * d * q = c * q * d := by grind
    rw [e] at this
    exact Int.lt_of_mul_lt_mul_right this (by omega)
theorem tdiv_gcd {n d : Int} (h : 0 < d) : ∃ a b, n.tdiv (Int.gcd n d) = a ∧ d.tdiv (Int.gcd n d) = b ∧ (Int.gcd n d : Int) ≠ 0 ∧ IsR a b n d ∧ a.natAbs ≤ n.natAbs ∧ b ≤ d := by
  have hd : d ≠ 0 := by omega
  have hg : 0 < Int.gcd n d := Int.gcd_pos_of_ne_zero_right n hd
  obtain ⟨a, ha⟩ := Int.gcd_dvd_left n d
  obtain ⟨b, hb⟩ := Int.gcd_dvd_right n d
  have hG0 : Int.gcd n d = Int.gcd n d := rfl
  generalize hG : (Int.gcd n d : Int) = g at *
  have hg0 : 0 < g := by omega
  have hb0 : 0 < b := by
    rcases Int.lt_or_le 0 b with h' | h'
    · exact h'
    · have : g * b ≤ 0 := Int.mul_nonpos_of_nonneg_of_nonpos (by omega) h'
      omega
  refine ⟨a, b, ?_, ?_, by omega, ⟨by omega, ?_, ?_⟩, ?_, ?_⟩
  · rw [ha, Int.mul_tdiv_cancel_left _ (by omega)]
  · rw [hb, Int.mul_tdiv_cancel_left _ (by omega)]
  · have h1 : Int.gcd (g * a) (g * b) = g.natAbs * Int.gcd a b := Int.gcd_mul_left _ _ _
    rw [← ha, ← hb] at h1
    have h2 : g.natAbs = Int.gcd n d := by omega
    rw [h2] at h1
    exact Nat.eq_of_mul_eq_mul_left hg (by rw [← h1, Nat.mul_one])
  · rw [ha, hb]; grind
  · rw [ha, Int.natAbs_mul]
    exact Nat.le_mul_of_pos_left _ (by omega)
  · rw [hb]
    have : 1 * b ≤ g * b := Int.mul_le_mul_of_nonneg_right (by omega) (by omega)
    omega
theorem plain_f {k : Nat} (hk : 130 ≤ k) {n d : Int} (hn1 : -4611686018427387904 ≤ n) (hn2 : n ≤ 4611686018427387904) (hd1 : -4611686018427387904 ≤ d) (hd2 : d ≤ 4611686018427387904) (hd : d ≠ 0) :
    ∃ p q, card_ratio_plain.f k n d = some (p, q) ∧ IsR p q n d ∧ p.natAbs ≤ n.natAbs ∧ q ≤ d.natAbs := by
  unfold card_ratio_plain.f
  by_cases hneg : d < 0
  · rw [if_pos hneg, w64 (by omega) (by omega), w64 (by omega) (by omega), divisor_f hk (by omega) (by omega) (by omega) (by omega), Option.bind_some]
    obtain ⟨a, b, e1, e2, e3, ⟨h1, h2, h3⟩, h4, h5⟩ := tdiv_gcd (n := -n) (d := -d) (by omega)
    rw [if_neg e3, e1, e2, w64 (by omega) (by omega), w64 (by omega) (by omega)]
    exact ⟨a, b, rfl, ⟨h1, h2, by grind⟩, by omega, by omega⟩
  · rw [if_neg hneg, divisor_f hk (by omega) (by omega) (by omega) (by omega), Option.bind_some]
    obtain ⟨a, b, e1, e2, e3, ⟨h1, h2, h3⟩, h4, h5⟩ := tdiv_gcd (n := n) (d := d) (by omega)
    rw [if_neg e3, e1, e2, w64 (by omega) (by omega), w64 (by omega) (by omega)]
    exact ⟨a, b, rfl, ⟨h1, h2, h3⟩, by omega, by omega⟩
theorem mul_bd {a b A B : Int} (h1 : -A ≤ a) (h2 : a ≤ A) (h3 : 0 ≤ b) (h4 : b ≤ B) : -(A * B) ≤ a * b ∧ a * b ≤ A * B := by
  have hA : 0 ≤ A := by omega
  have e1 : a * b ≤ A * b := Int.mul_le_mul_of_nonneg_right h2 h3
  have e2 : A * b ≤ A * B := Int.mul_le_mul_of_nonneg_left h4 hA
  have e3 : (-A) * b ≤ a * b := Int.mul_le_mul_of_nonneg_right h1 h3
  have e4 : (-A) * b = -(A * b) := Int.neg_mul _ _
  omega
/-- What is known of two fractions whose sum is reckoned. -/
structure Fit (a b c e P A C : Int) : Prop where
  hb : 1 ≤ b
  he : 1 ≤ e
  hbP : b ∣ P
  heP : e ∣ P
  hP : 1 ≤ P
  hP2 : P ≤ 2305843009213693952
  a0 : -(A * b) ≤ a
  a1 : a ≤ A * b
  c0 : -(C * e) ≤ c
  c1 : c ≤ C * e
  hA : 0 ≤ A
  hC : 0 ≤ C
  hs : (A + C) * P ≤ 2305843009213693952
/-- One sum: what both programs compute. -/
theorem sum_parts {a b c e P A C : Int} (h : Fit a b c e P A C) :
    ∃ x y : Int, (Int.gcd b e : Int) ≠ 0 ∧ wrap64 (e.tdiv (Int.gcd b e)) = y ∧ wrap64 (b.tdiv (Int.gcd b e)) = x ∧ wrap64 (a * y) = a * y ∧ wrap64 (c * x) = c * x ∧ wrap64 (a * y + c * x) = a * y + c * x ∧ wrap64 (x * e) = x * e ∧
      -4611686018427387904 ≤ a * y + c * x ∧ a * y + c * x ≤ 4611686018427387904 ∧ 1 ≤ x * e ∧ x * e ≤ 2305843009213693952 ∧
      ∀ p q, IsR p q (a * y + c * x) (x * e) → IsR p q (a * e + c * b) (b * e) ∧ q ∣ P ∧ -((A + C) * q) ≤ p ∧ p ≤ (A + C) * q := by
  obtain ⟨hb, he, hbP, heP, hP, hP2, a0, a1, c0, c1, hA, hC, hs⟩ := h
  have hg : 0 < Int.gcd b e := Int.gcd_pos_of_ne_zero_right b (by omega)
  have hco0 : ∀ x y : Int, b = (Int.gcd b e : Int) * x → e = (Int.gcd b e : Int) * y → Int.gcd x y = 1 := by
    intro x y hx hy
    have h1 : Int.gcd ((Int.gcd b e : Int) * x) ((Int.gcd b e : Int) * y) = (Int.gcd b e : Int).natAbs * Int.gcd x y := Int.gcd_mul_left _ _ _
    rw [← hx, ← hy] at h1
    have h2 : (Int.gcd b e : Int).natAbs = Int.gcd b e := by omega
    rw [h2] at h1
    exact Nat.eq_of_mul_eq_mul_left hg (by rw [← h1, Nat.mul_one])
  obtain ⟨x, hx⟩ := Int.gcd_dvd_left b e
  obtain ⟨y, hy⟩ := Int.gcd_dvd_right b e
  have hco := hco0 x y hx hy
  clear hco0
  generalize hG : (Int.gcd b e : Int) = g at *
  have hg0 : 0 < g := by omega
  have hx0 : 0 < x := by
    rcases Int.lt_or_le 0 x with h' | h'
    · exact h'
    · have : g * x ≤ 0 := Int.mul_nonpos_of_nonneg_of_nonpos (by omega) h'
      omega
  have hy0 : 0 < y := by
    rcases Int.lt_or_le 0 y with h' | h'
    · exact h'
    · have : g * y ≤ 0 := Int.mul_nonpos_of_nonneg_of_nonpos (by omega) h'
      omega
  have hxe : 0 < x * e := Int.mul_pos hx0 (by omega)
  have hxeb : x * e = b * y := by rw [hx]; conv => lhs; rw [hy]
                                  grind
  -- the smallest common multiple divides P
  have hlcm : x * e ∣ P := by
    obtain ⟨u, hu⟩ := heP
    obtain ⟨v, hv⟩ := hbP
    have h1 : y * u = x * v := by
      have : g * (y * u) = g * (x * v) := by
        have e1 : g * (y * u) = P := by rw [hu]; conv => rhs; rw [hy]
                                        grind
        have e2 : g * (x * v) = P := by rw [hv]; conv => rhs; rw [hx]
                                        grind
        rw [e1, e2]
      exact Int.eq_of_mul_eq_mul_left (by omega) this
    have h2 : x ∣ y * u := ⟨v, h1⟩
    rw [← Int.natAbs_dvd_natAbs, Int.natAbs_mul] at h2
    have h3 : x ∣ u := Int.natAbs_dvd_natAbs.1 (Nat.Coprime.dvd_of_dvd_mul_left hco h2)
    obtain ⟨w, hw⟩ := h3
    exact ⟨w, by rw [hu, hw]; grind⟩
  have hle : x * e ≤ P := Int.le_of_dvd (by omega) hlcm
  have hxle : x ≤ x * e := by have : x * 1 ≤ x * e := Int.mul_le_mul_of_nonneg_left (by omega) (by omega); omega
  have hyle : y ≤ x * e := by rw [hxeb]; have : 1 * y ≤ b * y := Int.mul_le_mul_of_nonneg_right (by omega) (by omega); omega
  have hAP : 0 ≤ A * P := Int.mul_nonneg hA (by omega)
  have hCP : 0 ≤ C * P := Int.mul_nonneg hC (by omega)
  have hsum : A * P + C * P ≤ 2305843009213693952 := by rw [← Int.add_mul]; exact hs
  have k1 : a * y ≤ A * P ∧ -(A * P) ≤ a * y := by
    have e1 : a * y ≤ A * b * y := Int.mul_le_mul_of_nonneg_right a1 (by omega)
    have e2 : -(A * b) * y ≤ a * y := Int.mul_le_mul_of_nonneg_right a0 (by omega)
    have e3 : A * b * y = A * (x * e) := by rw [hxeb]; grind
    have e4 : A * (x * e) ≤ A * P := Int.mul_le_mul_of_nonneg_left hle hA
    have e5 : -(A * b) * y = -(A * b * y) := Int.neg_mul _ _
    omega
  have k2 : c * x ≤ C * P ∧ -(C * P) ≤ c * x := by
    have e1 : c * x ≤ C * e * x := Int.mul_le_mul_of_nonneg_right c1 (by omega)
    have e2 : -(C * e) * x ≤ c * x := Int.mul_le_mul_of_nonneg_right c0 (by omega)
    have e3 : C * e * x = C * (x * e) := by grind
    have e4 : C * (x * e) ≤ C * P := Int.mul_le_mul_of_nonneg_left hle hC
    have e5 : -(C * e) * x = -(C * e * x) := Int.neg_mul _ _
    omega
  have t1 : e.tdiv g = y := by rw [hy, Int.mul_tdiv_cancel_left _ (by omega)]
  have t2 : b.tdiv g = x := by rw [hx, Int.mul_tdiv_cancel_left _ (by omega)]
  refine ⟨x, y, by omega, by rw [t1, w64 (by omega) (by omega)], by rw [t2, w64 (by omega) (by omega)], w64 (by omega) (by omega), w64 (by omega) (by omega), w64 (by omega) (by omega), w64 (by omega) (by omega), by omega, by omega, by omega, by omega, fun p q hr => ?_⟩
  refine ⟨isR_conv (by omega) hr ?_, isR_dvd hr hlcm, ?_⟩
  · have r1 : a * e + c * b = g * (a * y + c * x) := by
      conv => lhs; rw [hx]
      conv => lhs; lhs; rw [hy]
      grind
    have r2 : b * e = g * (x * e) := by conv => lhs; rw [hx]
                                        grind
    rw [r1, r2]; grind
  · refine isR_bd hr (by omega) ?_ ?_
    · have e1 : -(A * b) * y ≤ a * y := Int.mul_le_mul_of_nonneg_right a0 (by omega)
      have e2 : -(C * e) * x ≤ c * x := Int.mul_le_mul_of_nonneg_right c0 (by omega)
      have e3 : -((A + C) * (x * e)) = -(A * b) * y + -(C * e) * x := by
        have : A * b * y = A * (x * e) := by rw [hxeb]; grind
        grind
      omega
    · have e1 : a * y ≤ A * b * y := Int.mul_le_mul_of_nonneg_right a1 (by omega)
      have e2 : c * x ≤ C * e * x := Int.mul_le_mul_of_nonneg_right c1 (by omega)
      have e3 : (A + C) * (x * e) = A * b * y + C * e * x := by
        have : A * b * y = A * (x * e) := by rw [hxeb]; grind
        grind
      omega
/-- One round of the sum of a list. -/
theorem plus_step {k : Nat} (hk : 130 ≤ k) {l : List S101} {i : Nat} {a b P A C : Int} (hi : i < l.length) (hl : l.length < 1000000) (h : Fit a b (rd_T101 l i).f0 (rd_T101 l i).f1 P A C) :
    ∃ p q, card_ratio_plus.l0 (k + 1) l l.length i a b = card_ratio_plus.l0 k l l.length ((i + 1 : Nat) : Int) p q ∧ IsR p q (a * (rd_T101 l i).f1 + (rd_T101 l i).f0 * b) (b * (rd_T101 l i).f1) ∧ q ∣ P ∧ -((A + C) * q) ≤ p ∧ p ≤ (A + C) * q := by
  obtain ⟨x, y, e0, e1, e2, e3, e4, e5, e6, b1, b2, b3, b4, hx⟩ := sum_parts h
  have hb := h.hb
  have he := h.he
  have hbP := Int.le_of_dvd (by have := h.hP; omega) h.hbP
  have heP := Int.le_of_dvd (by have := h.hP; omega) h.heP
  have hP2 := h.hP2
  obtain ⟨p, q, hf, hr, _⟩ := plain_f hk b1 b2 (d := x * (rd_T101 l i).f1) (by omega) (by omega) (by omega)
  refine ⟨p, q, ?_, hx p q hr⟩
  conv => lhs; unfold card_ratio_plus.l0
  rw [if_pos (by omega), if_pos (by omega), if_pos (by omega), divisor_f hk (by omega) (by omega) (by omega) (by omega), Option.bind_some, if_neg e0, e1, e2, e3, e4, e5, e6, hf, Option.bind_some, w64 (by omega) (by omega)]
  rfl
/-- The sum of two fractions. -/
theorem plus1_f {k : Nat} (hk : 132 ≤ k) {a b c e P A C : Int} (h : Fit a b c e P A C) :
    ∃ p q, card_ratio_plus.f k a b [⟨c, e⟩] = some (p, q) ∧ IsR p q (a * e + c * b) (b * e) ∧ q ∣ P ∧ -((A + C) * q) ≤ p ∧ p ≤ (A + C) * q := by
  obtain ⟨k, rfl⟩ : ∃ k', k = k' + 2 := ⟨k - 2, by omega⟩
  obtain ⟨p, q, hf, hr⟩ := plus_step (k := k + 1) (by omega) (l := [⟨c, e⟩]) (i := 0) (by simp) (by simp) h
  refine ⟨p, q, ?_, hr⟩
  unfold card_ratio_plus.f
  refine hf.trans ?_
  unfold card_ratio_plus.l0
  rw [if_neg (by simp)]
theorem ref_div_l : ∀ k a b, agonicref01_Divisor.l0 k a b = card_divisor.l0 k a b
  | 0, _, _ => rfl
  | k + 1, a, b => by
    unfold agonicref01_Divisor.l0 card_divisor.l0
    simp only [ref_div_l k]
theorem ref_div (k : Nat) (a b : Int) : agonicref01_Divisor.f k a b = card_divisor.f k a b := ref_div_l _ _ _
theorem ref_red (k : Nat) (a b : Int) : agonicref01_Reduced.f k a b = card_ratio_plain.f k a b := by
  unfold agonicref01_Reduced.f card_ratio_plain.f
  simp only [ref_div]
theorem ref_plus {k : Nat} (hk : 132 ≤ k) {a b c e P A C : Int} (h : Fit a b c e P A C) :
    ∃ p q, agonicref05_Plus.f k a b c e = some (p, q) ∧ IsR p q (a * e + c * b) (b * e) ∧ q ∣ P ∧ -((A + C) * q) ≤ p ∧ p ≤ (A + C) * q := by
  obtain ⟨x, y, e0, e1, e2, e3, e4, e5, e6, b1, b2, b3, b4, hx⟩ := sum_parts h
  have hb := h.hb
  have he := h.he
  have hbP := Int.le_of_dvd (by have := h.hP; omega) h.hbP
  have heP := Int.le_of_dvd (by have := h.hP; omega) h.heP
  have hP2 := h.hP2
  obtain ⟨p, q, hf, hr, _⟩ := plain_f (k := k) (by omega) b1 b2 (d := x * e) (by omega) (by omega) (by omega)
  refine ⟨p, q, ?_, hx p q hr⟩
  unfold agonicref05_Plus.f
  rw [ref_div, divisor_f (by omega) (by omega) (by omega) (by omega) (by omega), Option.bind_some, if_neg e0, e1, e2, e3, e4, e5, e6, ref_red, hf, Option.bind_some]
theorem less_f {a b c e : Int} (h1 : -9223372036854775808 ≤ a * e) (h2 : a * e < 9223372036854775808) (h3 : -9223372036854775808 ≤ c * b) (h4 : c * b < 9223372036854775808) : agonicref01_Less.f a b c e = some (decide (a * e < c * b)) := by
  unfold agonicref01_Less.f
  rw [w64 h1 h2, w64 h3 h4]
/-- A fraction is brought back into a turn: its numerator modulo a turn of its denominator. -/
theorem around_f {n d : Int} (hd : 1 ≤ d) (hd2 : d ≤ 1000000000000) (h1 : -1000000000000000 ≤ n) (h2 : n ≤ 1000000000000000) : card_ratio_around.f n d = some (n % (3600 * d), d) := by
  unfold card_ratio_around.f
  rw [w64 (x := 3600 * d) (by omega) (by omega), if_neg (by omega)]
  have ht : n.tmod (3600 * d) = if 0 ≤ n then n % (3600 * d) else -((-n) % (3600 * d)) := by
    split
    · exact Int.tmod_eq_emod_of_nonneg (by assumption)
    · have e : n = -(-n) := by omega
      conv => lhs; rw [e]
      rw [Int.neg_tmod, Int.tmod_eq_emod_of_nonneg (by omega)]
  have m0 := Int.emod_nonneg n (b := 3600 * d) (by omega)
  have m1 := Int.emod_lt_of_pos n (b := 3600 * d) (by omega)
  have m2 := Int.emod_nonneg (-n) (b := 3600 * d) (by omega)
  have m3 := Int.emod_lt_of_pos (-n) (b := 3600 * d) (by omega)
  have hneg : (-n) % (3600 * d) = 0 ∧ n % (3600 * d) = 0 ∨ n % (3600 * d) = 3600 * d - (-n) % (3600 * d) := by
    have h' : (n % (3600 * d) + (-n) % (3600 * d)) % (3600 * d) = 0 := by
      rw [← Int.add_emod, Int.add_right_neg, Int.zero_emod]
    obtain ⟨t, ht⟩ := Int.dvd_of_emod_eq_zero h'
    rcases Int.lt_trichotomy t 0 with h0 | h0 | h0
    · have : 3600 * d * t ≤ 3600 * d * (-1) := Int.mul_le_mul_of_nonneg_left (by omega) (by omega)
      omega
    · subst h0; omega
    · rcases Int.lt_or_le 1 t with h3 | h3
      · have : 3600 * d * 2 ≤ 3600 * d * t := Int.mul_le_mul_of_nonneg_left (by omega) (by omega)
        omega
      · obtain rfl : t = 1 := by omega
        omega
  rw [ht]
  by_cases h0 : 0 ≤ n
  · rw [if_pos h0, if_neg (by omega)]
  · rw [if_neg h0]
    split
    · rw [w64 (by omega) (by omega)]
      have : -((-n) % (3600 * d)) + 3600 * d = n % (3600 * d) := by omega
      rw [this]
    · have : -((-n) % (3600 * d)) = n % (3600 * d) := by omega
      rw [this]
theorem isR_around {p q n d : Int} (h : IsR p q n d) : IsR (p % (3600 * q)) q (p % (3600 * q)) q := by
  obtain ⟨h1, h2, _⟩ := h
  refine ⟨h1, ?_, rfl⟩
  have e : p % (3600 * q) = p - q * (3600 * (p / (3600 * q))) := by
    have := Int.emod_add_mul_ediv p (3600 * q)
    grind
  rw [e, Int.gcd_sub_mul_left_left]
  exact h2
theorem raround_up : ∀ (t : Nat) (k : Nat) (n d : Int), 1 ≤ d → d ≤ 1000000000000 → -100000000000000000 ≤ n → n ≤ 100000000000000000 → -(3600 * d * t) ≤ n → n < 3600 * d * t → 2 * t + 2 ≤ k → agonicref05_around.l0 k n d = some (n % (3600 * d), d) ∧ (0 ≤ n → agonicref05_around.l1 k n d = some (n % (3600 * d), d))
  | 0, k, n, d, h1, h2, h3, h4, h5, h6, hk => by simp at h5 h6; omega
  | t + 1, k, n, d, h1, h2, h3, h4, h5, h6, hk => by
    have hT : 3600 * d * ((t + 1 : Nat) : Int) = 3600 * d * t + 3600 * d := by grind
    rw [hT] at h5 h6
    have h0t : 0 ≤ 3600 * d * (t : Int) := Int.mul_nonneg (by omega) (by omega)
    have ew : wrap64 (3600 * d) = 3600 * d := w64 (by omega) (by omega)
    have second : ∀ k, 2 * t + 3 ≤ k + 1 → 0 ≤ n → agonicref05_around.l1 (k + 1) n d = some (n % (3600 * d), d) := by
      intro k hk hn
      conv => lhs; unfold agonicref05_around.l1
      rw [ew]
      by_cases hc : n ≥ 3600 * d
      · rw [if_pos hc, w64 (by omega) (by omega)]
        rcases Nat.eq_zero_or_pos t with rfl | ht
        · simp at hT; omega
        · have h3t : 3600 * d * 1 ≤ 3600 * d * (t : Int) := Int.mul_le_mul_of_nonneg_left (by omega) (by omega)
          rw [(raround_up t k (n - 3600 * d) d h1 h2 (by omega) (by omega) (by omega) (by omega) (by omega)).2 (by omega), Int.sub_emod_right]
      · rw [if_neg hc, Int.emod_eq_of_lt hn (by omega)]
    obtain ⟨k, rfl⟩ : ∃ k', k = k' + 2 := ⟨k - 2, by omega⟩
    refine ⟨?_, fun hn => second _ (by omega) hn⟩
    conv => lhs; unfold agonicref05_around.l0
    rw [ew]
    by_cases hc : n < 0
    · rw [if_pos hc, w64 (by omega) (by omega)]
      rcases Nat.eq_zero_or_pos t with rfl | ht
      · have e : n % (3600 * d) = n + 3600 * d := by
          rw [← Int.add_emod_right, Int.emod_eq_of_lt (by omega) (by omega)]
        unfold agonicref05_around.l0
        rw [if_neg (by omega)]
        obtain ⟨k, rfl⟩ : ∃ k', k = k' + 1 := ⟨k - 1, by omega⟩
        unfold agonicref05_around.l1
        rw [ew, if_neg (by omega), e]
      · have h3t : 3600 * d * 1 ≤ 3600 * d * (t : Int) := Int.mul_le_mul_of_nonneg_left (by omega) (by omega)
        rw [(raround_up t (k + 1) (n + 3600 * d) d h1 h2 (by omega) (by omega) (by omega) (by omega) (by omega)).1, Int.add_emod_right]
    · rw [if_neg hc]
      exact second _ (by omega) (by omega)
end Go.Proofs.Ytccjefoejjnccaa.M
