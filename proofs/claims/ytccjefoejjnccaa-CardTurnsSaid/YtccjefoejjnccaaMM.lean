/- What is proved here: the plain laws, with no program in sight: what is computed is as the statements say. -/
import Derived.Test.YtccjefoejjnccaaC4
import Derived.Test.YtccjefoejjnccaaH5
import Derived.Test.YtccjefoejjnccaaC8
import Derived.Test.YtccjefoejjnccaaC9
import Derived.Test.YtccjefoejjnccaaC11
import Derived.Test.YtccjefoejjnccaaC6
import Derived.Test.YtccjefoejjnccaaC7
import Derived.Test.YtccjefoejjnccaaC0
import Derived.Test.YtccjefoejjnccaaC21
import Derived.Test.YtccjefoejjnccaaC1
import Derived.Test.YtccjefoejjnccaaC3
import Derived.Test.YtccjefoejjnccaaC12
import Derived.Test.YtccjefoejjnccaaH13
import Derived.Test.YtccjefoejjnccaaC19
import Derived.Test.YtccjefoejjnccaaH12
import Derived.Test.YtccjefoejjnccaaC5
import Derived.Test.YtccjefoejjnccaaC25
/- What is proved here: the greatest divisor, reduced fractions and their sums, as the program and the reference compute them. -/
namespace Go.Proofs.Ytccjefoejjnccaa.M
open Go.Proofs.Ytccjefoejjnccaa Go.RowKit Go.Proofs.Ytccjefoejjnccaa.C Go.Proofs.YtccjefoejjnccaaW.PrintWords Go.Proofs.YtccjefoejjnccaaW.PrintLast Go.Proofs.YtccjefoejjnccaaW.PrintMore
theorem div_loop : ∀ (j : Nat) (a b : Nat) (k : Nat), b < 2 ^ j → 2 * j + 1 ≤ k → card_divisor.l0 k a b = some ((Nat.gcd a b : Nat) : Int)
  | 0, a, b, k, hb, hk => by
    obtain rfl : b = 0 := by omega
    obtain ⟨k, rfl⟩ : ∃ k', k = k' + 1 := ⟨k - 1, by omega⟩
    unfold card_divisor.l0
    simp
  | j + 1, a, b, k, hb, hk => by
    obtain ⟨k, rfl⟩ : ∃ k', k = k' + 2 := ⟨k - 2, by omega⟩
    unfold card_divisor.l0
    rcases Nat.eq_zero_or_pos b with rfl | hp
    · simp
    · rw [if_pos (by omega), if_neg (by omega)]
      have e1 : (a : Int).tmod b = ((a % b : Nat) : Int) := (Int.ofNat_tmod _ _).symm
      rw [e1]
      unfold card_divisor.l0
      have h1 : a % b < b := Nat.mod_lt _ hp
      rcases Nat.eq_zero_or_pos (a % b) with h0 | h0
      · rw [h0, if_neg (by omega), Nat.gcd_comm, Nat.gcd_rec, h0, Nat.gcd_zero_left]
      · rw [if_pos (by omega), if_neg (by omega)]
        have e2 : (b : Int).tmod ((a % b : Nat) : Int) = ((b % (a % b) : Nat) : Int) := (Int.ofNat_tmod _ _).symm
        have h2 : b % (a % b) < a % b := Nat.mod_lt _ h0
        have h3 : b % (a % b) + (a % b) ≤ b := by
          have := Nat.div_add_mod b (a % b)
          have h4 : 1 ≤ b / (a % b) := Nat.div_pos (Nat.le_of_lt h1) h0
          have h5 : a % b * 1 ≤ a % b * (b / (a % b)) := Nat.mul_le_mul_left _ h4
          omega
        rw [e2, div_loop j _ _ k (by rw [Nat.pow_succ] at hb; omega) (by omega)]
        rw [Nat.gcd_comm (a % b), ← Nat.gcd_rec, ← Nat.gcd_rec, Nat.gcd_comm]
theorem w64 {x : Int} (h1 : -9223372036854775808 ≤ x) (h2 : x < 9223372036854775808) : wrap64 x = x := by unfold wrap64; omega
theorem mx_neg (a : Int) (h1 : -4611686018427387904 ≤ a) (h2 : a ≤ 4611686018427387904) : mx a (wrap64 (-a)) = (a.natAbs : Int) := by
  rw [w64 (by omega) (by omega)]
  unfold mx
  split <;> omega
theorem divisor_f {k : Nat} (hk : 130 ≤ k) {a b : Int} (ha1 : -4611686018427387904 ≤ a) (ha2 : a ≤ 4611686018427387904) (hb1 : -4611686018427387904 ≤ b) (hb2 : b ≤ 4611686018427387904) :
    card_divisor.f k a b = some (Int.gcd a b : Int) := by
  unfold card_divisor.f
  rw [mx_neg a ha1 ha2, mx_neg b hb1 hb2, div_loop 64 _ _ k (by have : (2:Nat)^64 = 18446744073709551616 := rfl; omega) (by omega)]
  rfl
/-- (p, q) is the reduced form of n / d. -/
def IsR (p q n d : Int) : Prop := 1 ≤ q ∧ Int.gcd p q = 1 ∧ p * d = n * q
theorem isR_unique {p q p' q' n d : Int} (hd : d ≠ 0) (h : IsR p q n d) (h' : IsR p' q' n d) : p = p' ∧ q = q' := by
  obtain ⟨h1, h2, h3⟩ := h
  obtain ⟨h1', h2', h3'⟩ := h'
  refine H.frac_eq h1 h1' h2 h2' ?_
  have e : d * (p * q') = d * (p' * q) := by
    have e1 : d * (p * q') = n * q * q' := by rw [← h3]; grind
    have e2 : d * (p' * q) = n * q' * q := by rw [← h3']; grind
    rw [e1, e2]; grind
  exact Int.eq_of_mul_eq_mul_left hd e
theorem isR_conv {p q n d n' d' : Int} (hd : d ≠ 0) (h : IsR p q n d) (e : n * d' = n' * d) : IsR p q n' d' := by
  obtain ⟨h1, h2, h3⟩ := h
  refine ⟨h1, h2, Int.eq_of_mul_eq_mul_left hd ?_⟩
  have e1 : d * (p * d') = n * d' * q := by
    have : d * (p * d') = p * d * d' := by grind
    rw [this, h3]; grind
  rw [e1, e]; grind
theorem isR_dvd {p q n d P : Int} (h : IsR p q n d) (hd : d ∣ P) : q ∣ P := by
  obtain ⟨h1, h2, h3⟩ := h
  have h0 : q ∣ p * d := ⟨n, by rw [h3, Int.mul_comm]⟩
  rw [← Int.natAbs_dvd_natAbs, Int.natAbs_mul] at h0
  have h4 : Nat.Coprime q.natAbs p.natAbs := by rw [Nat.Coprime, Nat.gcd_comm]; exact h2
  exact Int.dvd_trans (Int.natAbs_dvd_natAbs.1 (h4.dvd_of_dvd_mul_left h0)) hd
theorem isR_bd {p q n d A : Int} (h : IsR p q n d) (hd : 1 ≤ d) (h1 : -(A * d) ≤ n) (h2 : n ≤ A * d) : -(A * q) ≤ p ∧ p ≤ A * q := by
  obtain ⟨hq, _, h3⟩ := h
  have e1 : n * q ≤ A * d * q := Int.mul_le_mul_of_nonneg_right h2 (by omega)
  have e2 : -(A * d) * q ≤ n * q := Int.mul_le_mul_of_nonneg_right h1 (by omega)
  constructor
  · have : -(A * q) * d ≤ p * d := by rw [h3]; have e : -(A * q) * d = -(A * d) * q := by grind
                                      rw [e]; exact e2
    exact Int.le_of_mul_le_mul_right this (by omega)
  · have : p * d ≤ A * q * d := by rw [h3]; have e : A * q * d = A * d * q := by grind
                                   rw [e]; exact e1
    exact Int.le_of_mul_le_mul_right this (by omega)
theorem isR_lt {p q n d : Int} (h : IsR p q n d) (hd : 1 ≤ d) (c : Int) : p < c * q ↔ n < c * d := by
  obtain ⟨hq, _, h3⟩ := h
  constructor
  · intro h
    have : p * d < c * q * d := Int.mul_lt_mul_of_pos_right h (by omega)
    rw [h3] at this
    have e : c * q * d = c * d * q := by grind
    rw [e] at this
    exact Int.lt_of_mul_lt_mul_right this (by omega)
  · intro h
    have : n * q < c * d * q := Int.mul_lt_mul_of_pos_right h (by omega)
    rw [← h3] at this
    have e : c * d * q = c * q * d := by grind
    rw [e] at this
    exact Int.lt_of_mul_lt_mul_right this (by omega)
theorem tdiv_gcd {n d : Int} (h : 0 < d) : ∃ a b, n.tdiv (Int.gcd n d) = a ∧ d.tdiv (Int.gcd n d) = b ∧ (Int.gcd n d : Int) ≠ 0 ∧ IsR a b n d ∧ a.natAbs ≤ n.natAbs ∧ b ≤ d := by
  have hd : d ≠ 0 := by omega
  have hg : 0 < Int.gcd n d := Int.gcd_pos_of_ne_zero_right n hd
  obtain ⟨a, ha⟩ := Int.gcd_dvd_left n d
  obtain ⟨b, hb⟩ := Int.gcd_dvd_right n d
  have hG0 : Int.gcd n d = Int.gcd n d := rfl
  generalize hG : (Int.gcd n d : Int) = g at *
  have hg0 : 0 < g := by omega
  have hb0 : 0 < b := by
    rcases Int.lt_or_le 0 b with h' | h'
    · exact h'
    · have : g * b ≤ 0 := Int.mul_nonpos_of_nonneg_of_nonpos (by omega) h'
      omega
  refine ⟨a, b, ?_, ?_, by omega, ⟨by omega, ?_, ?_⟩, ?_, ?_⟩
  · rw [ha, Int.mul_tdiv_cancel_left _ (by omega)]
  · rw [hb, Int.mul_tdiv_cancel_left _ (by omega)]
  · have h1 : Int.gcd (g * a) (g * b) = g.natAbs * Int.gcd a b := Int.gcd_mul_left _ _ _
    rw [← ha, ← hb] at h1
    have h2 : g.natAbs = Int.gcd n d := by omega
    rw [h2] at h1
    exact Nat.eq_of_mul_eq_mul_left hg (by rw [← h1, Nat.mul_one])
  · rw [ha, hb]; grind
  · rw [ha, Int.natAbs_mul]
    exact Nat.le_mul_of_pos_left _ (by omega)
  · rw [hb]
    have : 1 * b ≤ g * b := Int.mul_le_mul_of_nonneg_right (by omega) (by omega)
    omega
theorem plain_f {k : Nat} (hk : 130 ≤ k) {n d : Int} (hn1 : -4611686018427387904 ≤ n) (hn2 : n ≤ 4611686018427387904) (hd1 : -4611686018427387904 ≤ d) (hd2 : d ≤ 4611686018427387904) (hd : d ≠ 0) :
    ∃ p q, card_ratio_plain.f k n d = some (p, q) ∧ IsR p q n d ∧ p.natAbs ≤ n.natAbs ∧ q ≤ d.natAbs := by
  unfold card_ratio_plain.f
  by_cases hneg : d < 0
  · rw [if_pos hneg, w64 (by omega) (by omega), w64 (by omega) (by omega), divisor_f hk (by omega) (by omega) (by omega) (by omega), Option.bind_some]
    obtain ⟨a, b, e1, e2, e3, ⟨h1, h2, h3⟩, h4, h5⟩ := tdiv_gcd (n := -n) (d := -d) (by omega)
    rw [if_neg e3, e1, e2, w64 (by omega) (by omega), w64 (by omega) (by omega)]
    exact ⟨a, b, rfl, ⟨h1, h2, by grind⟩, by omega, by omega⟩
  · rw [if_neg hneg, divisor_f hk (by omega) (by omega) (by omega) (by omega), Option.bind_some]
    obtain ⟨a, b, e1, e2, e3, ⟨h1, h2, h3⟩, h4, h5⟩ := tdiv_gcd (n := n) (d := d) (by omega)
    rw [if_neg e3, e1, e2, w64 (by omega) (by omega), w64 (by omega) (by omega)]
    exact ⟨a, b, rfl, ⟨h1, h2, h3⟩, by omega, by omega⟩
theorem mul_bd {a b A B : Int} (h1 : -A ≤ a) (h2 : a ≤ A) (h3 : 0 ≤ b) (h4 : b ≤ B) : -(A * B) ≤ a * b ∧ a * b ≤ A * B := by
  have hA : 0 ≤ A := by omega
  have e1 : a * b ≤ A * b := Int.mul_le_mul_of_nonneg_right h2 h3
  have e2 : A * b ≤ A * B := Int.mul_le_mul_of_nonneg_left h4 hA
  have e3 : (-A) * b ≤ a * b := Int.mul_le_mul_of_nonneg_right h1 h3
  have e4 : (-A) * b = -(A * b) := Int.neg_mul _ _
  omega
/-- What is known of two fractions whose sum is reckoned. -/
structure Fit (a b c e P A C : Int) : Prop where
  hb : 1 ≤ b
  he : 1 ≤ e
  hbP : b ∣ P
  heP : e ∣ P
  hP : 1 ≤ P
  hP2 : P ≤ 2305843009213693952
  a0 : -(A * b) ≤ a
  a1 : a ≤ A * b
  c0 : -(C * e) ≤ c
  c1 : c ≤ C * e
  hA : 0 ≤ A
  hC : 0 ≤ C
  hs : (A + C) * P ≤ 2305843009213693952
/-- One sum: what both programs compute. -/
theorem sum_parts {a b c e P A C : Int} (h : Fit a b c e P A C) :
    ∃ x y : Int, (Int.gcd b e : Int) ≠ 0 ∧ wrap64 (e.tdiv (Int.gcd b e)) = y ∧ wrap64 (b.tdiv (Int.gcd b e)) = x ∧ wrap64 (a * y) = a * y ∧ wrap64 (c * x) = c * x ∧ wrap64 (a * y + c * x) = a * y + c * x ∧ wrap64 (x * e) = x * e ∧
      -4611686018427387904 ≤ a * y + c * x ∧ a * y + c * x ≤ 4611686018427387904 ∧ 1 ≤ x * e ∧ x * e ≤ 2305843009213693952 ∧
      ∀ p q, IsR p q (a * y + c * x) (x * e) → IsR p q (a * e + c * b) (b * e) ∧ q ∣ P ∧ -((A + C) * q) ≤ p ∧ p ≤ (A + C) * q := by
  obtain ⟨hb, he, hbP, heP, hP, hP2, a0, a1, c0, c1, hA, hC, hs⟩ := h
  have hg : 0 < Int.gcd b e := Int.gcd_pos_of_ne_zero_right b (by omega)
  have hco0 : ∀ x y : Int, b = (Int.gcd b e : Int) * x → e = (Int.gcd b e : Int) * y → Int.gcd x y = 1 := by
    intro x y hx hy
    have h1 : Int.gcd ((Int.gcd b e : Int) * x) ((Int.gcd b e : Int) * y) = (Int.gcd b e : Int).natAbs * Int.gcd x y := Int.gcd_mul_left _ _ _
    rw [← hx, ← hy] at h1
    have h2 : (Int.gcd b e : Int).natAbs = Int.gcd b e := by omega
    rw [h2] at h1
    exact Nat.eq_of_mul_eq_mul_left hg (by rw [← h1, Nat.mul_one])
  obtain ⟨x, hx⟩ := Int.gcd_dvd_left b e
  obtain ⟨y, hy⟩ := Int.gcd_dvd_right b e
  have hco := hco0 x y hx hy
  clear hco0
  generalize hG : (Int.gcd b e : Int) = g at *
  have hg0 : 0 < g := by omega
  have hx0 : 0 < x := by
    rcases Int.lt_or_le 0 x with h' | h'
    · exact h'
    · have : g * x ≤ 0 := Int.mul_nonpos_of_nonneg_of_nonpos (by omega) h'
      omega
  have hy0 : 0 < y := by
    rcases Int.lt_or_le 0 y with h' | h'
    · exact h'
    · have : g * y ≤ 0 := Int.mul_nonpos_of_nonneg_of_nonpos (by omega) h'
      omega
  have hxe : 0 < x * e := Int.mul_pos hx0 (by omega)
  have hxeb : x * e = b * y := by rw [hx]; conv => lhs; rw [hy]
                                  grind
  -- the smallest common multiple divides P
  have hlcm : x * e ∣ P := by
    obtain ⟨u, hu⟩ := heP
    obtain ⟨v, hv⟩ := hbP
    have h1 : y * u = x * v := by
      have : g * (y * u) = g * (x * v) := by
        have e1 : g * (y * u) = P := by rw [hu]; conv => rhs; rw [hy]
                                        grind
        have e2 : g * (x * v) = P := by rw [hv]; conv => rhs; rw [hx]
                                        grind
        rw [e1, e2]
      exact Int.eq_of_mul_eq_mul_left (by omega) this
    have h2 : x ∣ y * u := ⟨v, h1⟩
    rw [← Int.natAbs_dvd_natAbs, Int.natAbs_mul] at h2
    have h3 : x ∣ u := Int.natAbs_dvd_natAbs.1 (Nat.Coprime.dvd_of_dvd_mul_left hco h2)
    obtain ⟨w, hw⟩ := h3
    exact ⟨w, by rw [hu, hw]; grind⟩
  have hle : x * e ≤ P := Int.le_of_dvd (by omega) hlcm
  have hxle : x ≤ x * e := by have : x * 1 ≤ x * e := Int.mul_le_mul_of_nonneg_left (by omega) (by omega); omega
  have hyle : y ≤ x * e := by rw [hxeb]; have : 1 * y ≤ b * y := Int.mul_le_mul_of_nonneg_right (by omega) (by omega); omega
  have hAP : 0 ≤ A * P := Int.mul_nonneg hA (by omega)
  have hCP : 0 ≤ C * P := Int.mul_nonneg hC (by omega)
  have hsum : A * P + C * P ≤ 2305843009213693952 := by rw [← Int.add_mul]; exact hs
  have k1 : a * y ≤ A * P ∧ -(A * P) ≤ a * y := by
    have e1 : a * y ≤ A * b * y := Int.mul_le_mul_of_nonneg_right a1 (by omega)
    have e2 : -(A * b) * y ≤ a * y := Int.mul_le_mul_of_nonneg_right a0 (by omega)
    have e3 : A * b * y = A * (x * e) := by rw [hxeb]; grind
    have e4 : A * (x * e) ≤ A * P := Int.mul_le_mul_of_nonneg_left hle hA
    have e5 : -(A * b) * y = -(A * b * y) := Int.neg_mul _ _
    omega
  have k2 : c * x ≤ C * P ∧ -(C * P) ≤ c * x := by
    have e1 : c * x ≤ C * e * x := Int.mul_le_mul_of_nonneg_right c1 (by omega)
    have e2 : -(C * e) * x ≤ c * x := Int.mul_le_mul_of_nonneg_right c0 (by omega)
    have e3 : C * e * x = C * (x * e) := by grind
    have e4 : C * (x * e) ≤ C * P := Int.mul_le_mul_of_nonneg_left hle hC
    have e5 : -(C * e) * x = -(C * e * x) := Int.neg_mul _ _
    omega
  have t1 : e.tdiv g = y := by rw [hy, Int.mul_tdiv_cancel_left _ (by omega)]
  have t2 : b.tdiv g = x := by rw [hx, Int.mul_tdiv_cancel_left _ (by omega)]
  refine ⟨x, y, by omega, by rw [t1, w64 (by omega) (by omega)], by rw [t2, w64 (by omega) (by omega)], w64 (by omega) (by omega), w64 (by omega) (by omega), w64 (by omega) (by omega), w64 (by omega) (by omega), by omega, by omega, by omega, by omega, fun p q hr => ?_⟩
  refine ⟨isR_conv (by omega) hr ?_, isR_dvd hr hlcm, ?_⟩
  · have r1 : a * e + c * b = g * (a * y + c * x) := by
      conv => lhs; rw [hx]
      conv => lhs; lhs; rw [hy]
      grind
    have r2 : b * e = g * (x * e) := by conv => lhs; rw [hx]
                                        grind
    rw [r1, r2]; grind
  · refine isR_bd hr (by omega) ?_ ?_
    · have e1 : -(A * b) * y ≤ a * y := Int.mul_le_mul_of_nonneg_right a0 (by omega)
      have e2 : -(C * e) * x ≤ c * x := Int.mul_le_mul_of_nonneg_right c0 (by omega)
      have e3 : -((A + C) * (x * e)) = -(A * b) * y + -(C * e) * x := by
        have : A * b * y = A * (x * e) := by rw [hxeb]; grind
        grind
      omega
    · have e1 : a * y ≤ A * b * y := Int.mul_le_mul_of_nonneg_right a1 (by omega)
      have e2 : c * x ≤ C * e * x := Int.mul_le_mul_of_nonneg_right c1 (by omega)
      have e3 : (A + C) * (x * e) = A * b * y + C * e * x := by
        have : A * b * y = A * (x * e) := by rw [hxeb]; grind
        grind
      omega
/-- One round of the sum of a list. -/
theorem plus_step {k : Nat} (hk : 130 ≤ k) {l : List S101} {i : Nat} {a b P A C : Int} (hi : i < l.length) (hl : l.length < 1000000) (h : Fit a b (rd_T101 l i).f0 (rd_T101 l i).f1 P A C) :
    ∃ p q, card_ratio_plus.l0 (k + 1) l l.length i a b = card_ratio_plus.l0 k l l.length ((i + 1 : Nat) : Int) p q ∧ IsR p q (a * (rd_T101 l i).f1 + (rd_T101 l i).f0 * b) (b * (rd_T101 l i).f1) ∧ q ∣ P ∧ -((A + C) * q) ≤ p ∧ p ≤ (A + C) * q := by
  obtain ⟨x, y, e0, e1, e2, e3, e4, e5, e6, b1, b2, b3, b4, hx⟩ := sum_parts h
  have hb := h.hb
  have he := h.he
  have hbP := Int.le_of_dvd (by have := h.hP; omega) h.hbP
  have heP := Int.le_of_dvd (by have := h.hP; omega) h.heP
  have hP2 := h.hP2
  obtain ⟨p, q, hf, hr, _⟩ := plain_f hk b1 b2 (d := x * (rd_T101 l i).f1) (by omega) (by omega) (by omega)
  refine ⟨p, q, ?_, hx p q hr⟩
  conv => lhs; unfold card_ratio_plus.l0
  rw [if_pos (by omega), if_pos (by omega), if_pos (by omega), divisor_f hk (by omega) (by omega) (by omega) (by omega), Option.bind_some, if_neg e0, e1, e2, e3, e4, e5, e6, hf, Option.bind_some, w64 (by omega) (by omega)]
  rfl
/-- The sum of two fractions. -/
theorem plus1_f {k : Nat} (hk : 132 ≤ k) {a b c e P A C : Int} (h : Fit a b c e P A C) :
    ∃ p q, card_ratio_plus.f k a b [⟨c, e⟩] = some (p, q) ∧ IsR p q (a * e + c * b) (b * e) ∧ q ∣ P ∧ -((A + C) * q) ≤ p ∧ p ≤ (A + C) * q := by
  obtain ⟨k, rfl⟩ : ∃ k', k = k' + 2 := ⟨k - 2, by omega⟩
  obtain ⟨p, q, hf, hr⟩ := plus_step (k := k + 1) (by omega) (l := [⟨c, e⟩]) (i := 0) (by simp) (by simp) h
  refine ⟨p, q, ?_, hr⟩
  unfold card_ratio_plus.f
  refine hf.trans ?_
  unfold card_ratio_plus.l0
  rw [if_neg (by simp)]
theorem ref_div_l : ∀ k a b, agonicref01_Divisor.l0 k a b = card_divisor.l0 k a b
  | 0, _, _ => rfl
  | k + 1, a, b => by
    unfold agonicref01_Divisor.l0 card_divisor.l0
    simp only [ref_div_l k]
theorem ref_div (k : Nat) (a b : Int) : agonicref01_Divisor.f k a b = card_divisor.f k a b := ref_div_l _ _ _
theorem ref_red (k : Nat) (a b : Int) : agonicref01_Reduced.f k a b = card_ratio_plain.f k a b := by
  unfold agonicref01_Reduced.f card_ratio_plain.f
  simp only [ref_div]
theorem ref_plus {k : Nat} (hk : 132 ≤ k) {a b c e P A C : Int} (h : Fit a b c e P A C) :
    ∃ p q, agonicref05_Plus.f k a b c e = some (p, q) ∧ IsR p q (a * e + c * b) (b * e) ∧ q ∣ P ∧ -((A + C) * q) ≤ p ∧ p ≤ (A + C) * q := by
  obtain ⟨x, y, e0, e1, e2, e3, e4, e5, e6, b1, b2, b3, b4, hx⟩ := sum_parts h
  have hb := h.hb
  have he := h.he
  have hbP := Int.le_of_dvd (by have := h.hP; omega) h.hbP
  have heP := Int.le_of_dvd (by have := h.hP; omega) h.heP
  have hP2 := h.hP2
  obtain ⟨p, q, hf, hr, _⟩ := plain_f (k := k) (by omega) b1 b2 (d := x * e) (by omega) (by omega) (by omega)
  refine ⟨p, q, ?_, hx p q hr⟩
  unfold agonicref05_Plus.f
  rw [ref_div, divisor_f (by omega) (by omega) (by omega) (by omega) (by omega), Option.bind_some, if_neg e0, e1, e2, e3, e4, e5, e6, ref_red, hf, Option.bind_some]
theorem less_f {a b c e : Int} (h1 : -9223372036854775808 ≤ a * e) (h2 : a * e < 9223372036854775808) (h3 : -9223372036854775808 ≤ c * b) (h4 : c * b < 9223372036854775808) : agonicref01_Less.f a b c e = some (decide (a * e < c * b)) := by
  unfold agonicref01_Less.f
  rw [w64 h1 h2, w64 h3 h4]
/-- A fraction is brought back into a turn: its numerator modulo a turn of its denominator. -/
theorem around_f {n d : Int} (hd : 1 ≤ d) (hd2 : d ≤ 1000000000000) (h1 : -1000000000000000 ≤ n) (h2 : n ≤ 1000000000000000) : card_ratio_around.f n d = some (n % (3600 * d), d) := by
  unfold card_ratio_around.f
  rw [w64 (x := 3600 * d) (by omega) (by omega), if_neg (by omega)]
  have ht : n.tmod (3600 * d) = if 0 ≤ n then n % (3600 * d) else -((-n) % (3600 * d)) := by
    split
    · exact Int.tmod_eq_emod_of_nonneg (by assumption)
    · have e : n = -(-n) := by omega
      conv => lhs; rw [e]
      rw [Int.neg_tmod, Int.tmod_eq_emod_of_nonneg (by omega)]
  have m0 := Int.emod_nonneg n (b := 3600 * d) (by omega)
  have m1 := Int.emod_lt_of_pos n (b := 3600 * d) (by omega)
  have m2 := Int.emod_nonneg (-n) (b := 3600 * d) (by omega)
  have m3 := Int.emod_lt_of_pos (-n) (b := 3600 * d) (by omega)
  have hneg : (-n) % (3600 * d) = 0 ∧ n % (3600 * d) = 0 ∨ n % (3600 * d) = 3600 * d - (-n) % (3600 * d) := by
    have h' : (n % (3600 * d) + (-n) % (3600 * d)) % (3600 * d) = 0 := by
      rw [← Int.add_emod, Int.add_right_neg, Int.zero_emod]
    obtain ⟨t, ht⟩ := Int.dvd_of_emod_eq_zero h'
    rcases Int.lt_trichotomy t 0 with h0 | h0 | h0
    · have : 3600 * d * t ≤ 3600 * d * (-1) := Int.mul_le_mul_of_nonneg_left (by omega) (by omega)
      omega
    · subst h0; omega
    · rcases Int.lt_or_le 1 t with h3 | h3
      · have : 3600 * d * 2 ≤ 3600 * d * t := Int.mul_le_mul_of_nonneg_left (by omega) (by omega)
        omega
      · obtain rfl : t = 1 := by omega
        omega
  rw [ht]
  by_cases h0 : 0 ≤ n
  · rw [if_pos h0, if_neg (by omega)]
  · rw [if_neg h0]
    split
    · rw [w64 (by omega) (by omega)]
      have : -((-n) % (3600 * d)) + 3600 * d = n % (3600 * d) := by omega
      rw [this]
    · have : -((-n) % (3600 * d)) = n % (3600 * d) := by omega
      rw [this]
theorem isR_around {p q n d : Int} (h : IsR p q n d) : IsR (p % (3600 * q)) q (p % (3600 * q)) q := by
  obtain ⟨h1, h2, _⟩ := h
  refine ⟨h1, ?_, rfl⟩
  have e : p % (3600 * q) = p - q * (3600 * (p / (3600 * q))) := by
    have := Int.emod_add_mul_ediv p (3600 * q)
    grind
  rw [e, Int.gcd_sub_mul_left_left]
  exact h2
theorem raround_up : ∀ (t : Nat) (k : Nat) (n d : Int), 1 ≤ d → d ≤ 1000000000000 → -100000000000000000 ≤ n → n ≤ 100000000000000000 → -(3600 * d * t) ≤ n → n < 3600 * d * t → 2 * t + 2 ≤ k → agonicref05_around.l0 k n d = some (n % (3600 * d), d) ∧ (0 ≤ n → agonicref05_around.l1 k n d = some (n % (3600 * d), d))
  | 0, k, n, d, h1, h2, h3, h4, h5, h6, hk => by simp at h5 h6; omega
  | t + 1, k, n, d, h1, h2, h3, h4, h5, h6, hk => by
    have hT : 3600 * d * ((t + 1 : Nat) : Int) = 3600 * d * t + 3600 * d := by grind
    rw [hT] at h5 h6
    have h0t : 0 ≤ 3600 * d * (t : Int) := Int.mul_nonneg (by omega) (by omega)
    have ew : wrap64 (3600 * d) = 3600 * d := w64 (by omega) (by omega)
    have second : ∀ k, 2 * t + 3 ≤ k + 1 → 0 ≤ n → agonicref05_around.l1 (k + 1) n d = some (n % (3600 * d), d) := by
      intro k hk hn
      conv => lhs; unfold agonicref05_around.l1
      rw [ew]
      by_cases hc : n ≥ 3600 * d
      · rw [if_pos hc, w64 (by omega) (by omega)]
        rcases Nat.eq_zero_or_pos t with rfl | ht
        · simp at hT; omega
        · have h3t : 3600 * d * 1 ≤ 3600 * d * (t : Int) := Int.mul_le_mul_of_nonneg_left (by omega) (by omega)
          rw [(raround_up t k (n - 3600 * d) d h1 h2 (by omega) (by omega) (by omega) (by omega) (by omega)).2 (by omega), Int.sub_emod_right]
      · rw [if_neg hc, Int.emod_eq_of_lt hn (by omega)]
    obtain ⟨k, rfl⟩ : ∃ k', k = k' + 2 := ⟨k - 2, by omega⟩
    refine ⟨?_, fun hn => second _ (by omega) hn⟩
    conv => lhs; unfold agonicref05_around.l0
    rw [ew]
    by_cases hc : n < 0
    · rw [if_pos hc, w64 (by omega) (by omega)]
      rcases Nat.eq_zero_or_pos t with rfl | ht
      · have e : n % (3600 * d) = n + 3600 * d := by
          rw [← Int.add_emod_right, Int.emod_eq_of_lt (by omega) (by omega)]
        unfold agonicref05_around.l0
        rw [if_neg (by omega)]
        obtain ⟨k, rfl⟩ : ∃ k', k = k' + 1 := ⟨k - 1, by omega⟩
        unfold agonicref05_around.l1
        rw [ew, if_neg (by omega), e]
      · have h3t : 3600 * d * 1 ≤ 3600 * d * (t : Int) := Int.mul_le_mul_of_nonneg_left (by omega) (by omega)
        rw [(raround_up t (k + 1) (n + 3600 * d) d h1 h2 (by omega) (by omega) (by omega) (by omega) (by omega)).1, Int.add_emod_right]
    · rw [if_neg hc]
      exact second _ (by omega) (by omega)
end Go.Proofs.Ytccjefoejjnccaa.M
/- What is proved here: a card is checked alike by the program and by the reference. -/
namespace Go.Proofs.Ytccjefoejjnccaa.M
open Go.Proofs.Ytccjefoejjnccaa Go.RowKit Go.Proofs.Ytccjefoejjnccaa.C Go.Proofs.YtccjefoejjnccaaW.PrintWords Go.Proofs.YtccjefoejjnccaaW.PrintLast Go.Proofs.YtccjefoejjnccaaW.PrintMore
/-- The error of a list of points behind a heading. -/
def chk : Int → List S55 → Int
  | _, [] => 0
  | last, p :: ps => if ¬ (0 ≤ p.f0 ∧ p.f0 < 3600 ∧ -900 ≤ p.f1 ∧ p.f1 ≤ 900) then 1 else if p.f0 = last then 7 else if p.f0 < last then 5 else chk p.f0 ps
def chkAll (l : List S55) : Int := if l.length = 0 then 2 else if l.length > 36 then 3 else chk (-1) l
def asK (p : S55) : S92 := ⟨p.f0, ⟨p.f1, p.f1⟩⟩
theorem rd_get {l : List S55} {i : Nat} (h : i < l.length) : rd_T55 l (i : Int) = l[i] := by
  unfold rd_T55
  rw [List.getD_eq_getElem?_getD, Int.toNat_natCast, List.getElem?_eq_getElem h]; rfl
theorem rd_get92 {l : List S92} {i : Nat} (h : i < l.length) : rd_T92 l (i : Int) = l[i] := by
  unfold rd_T92
  rw [List.getD_eq_getElem?_getD, Int.toNat_natCast, List.getElem?_eq_getElem h]; rfl
theorem known_l : ∀ (n : Nat) (l : List S55) (i : Nat) (k : Nat) (acc : List S92), i + n = l.length → l.length < 1000000 → acc.length = i → n + 1 ≤ k → card_Card_known.l0 k acc l (l.length : Int) (i : Int) = some (acc ++ (l.drop i).map asK)
  | 0, l, i, k, acc, h, hl, ha, hk => by
    obtain ⟨k, rfl⟩ : ∃ k', k = k' + 1 := ⟨k - 1, by omega⟩
    unfold card_Card_known.l0
    rw [if_neg (by omega), List.drop_of_length_le (by omega)]
    simp
  | n + 1, l, i, k, acc, h, hl, ha, hk => by
    obtain ⟨k, rfl⟩ : ∃ k', k = k' + 1 := ⟨k - 1, by omega⟩
    unfold card_Card_known.l0
    rw [if_pos (by omega), if_pos (by omega), if_pos (by omega), if_pos (by omega), w64 (by omega) (by omega), rd_get (by omega : i < l.length)]
    rw [show ((i : Int) + 1) = ((i + 1 : Nat) : Int) by omega, known_l n l (i + 1) k _ (by omega) hl (by simp; omega) (by omega)]
    rw [List.drop_eq_getElem_cons (by omega : i < l.length), List.map_cons, List.append_assoc]
    rfl
theorem known_f {l : List S55} {k : Nat} (hl : l.length < 1000000) (hk : l.length + 1 ≤ k) : card_Card_known.f k l = some (l.map asK) := by
  unfold card_Card_known.f
  have := known_l l.length l 0 k [] (by omega) hl rfl hk
  simpa using this
theorem heading_f (a : Int) : card_heading.f a = some (decide (0 ≤ a ∧ a < 3600)) := by
  unfold card_heading.f
  by_cases h : a ≥ 0
  · rw [if_pos h]
    congr 1
    by_cases h2 : a < 3600
    · simp [h2, h]
    · simp [h2]
  · rw [if_neg h]
    simp
    omega
theorem wrong_f {k : Nat} (hk : 1 ≤ k) (a last lo hi : Int) : card_wrong.f k a last lo hi = some (if ¬ (0 ≤ a ∧ a < 3600 ∧ -900 ≤ lo ∧ lo ≤ hi ∧ hi ≤ 900) then 1 else if a = last then 7 else if a < last then 5 else 0) := by
  obtain ⟨k, rfl⟩ : ∃ k', k = k' + 1 := ⟨k - 1, by omega⟩
  have hj : ∀ b, card_wrong.j0 (k + 1) a last b = some (if b = true then 1 else if a = last then 7 else if a < last then 5 else 0) := by
    intro b
    simp only [card_wrong.j0]
    by_cases h1 : b = true
    · rw [if_pos h1, if_pos h1]
    · rw [if_neg h1, if_neg h1]
      by_cases h2 : a = last
      · rw [if_pos h2, if_pos h2]
      · rw [if_neg h2, if_neg h2]
        by_cases h3 : a < last
        · rw [if_pos h3, if_pos h3]
        · rw [if_neg h3, if_neg h3]
  unfold card_wrong.f
  simp only [heading_f, Option.bind_some, hj, decide_eq_true_eq]
  by_cases h1 : 0 ≤ a ∧ a < 3600
  · rw [if_pos h1]
    by_cases h2 : lo < -900
    · rw [if_pos h2, if_pos trivial, if_pos (by omega)]
    · rw [if_neg h2]
      by_cases h3 : lo > hi
      · rw [if_pos h3, if_pos trivial, if_pos (by omega)]
      · rw [if_neg h3]
        by_cases h4 : hi > 900
        · rw [if_pos h4, if_pos (by omega)]
        · rw [if_neg h4, if_neg (show ¬ ¬ (0 ≤ a ∧ a < 3600 ∧ -900 ≤ lo ∧ lo ≤ hi ∧ hi ≤ 900) from fun hn => hn (by omega))]
  · rw [if_neg h1, if_pos trivial, if_pos (by omega)]
/-- The error of a point behind a heading. -/
def wr (last : Int) (p : S55) : Int := if ¬ (0 ≤ p.f0 ∧ p.f0 < 3600 ∧ -900 ≤ p.f1 ∧ p.f1 ≤ 900) then 1 else if p.f0 = last then 7 else if p.f0 < last then 5 else 0
theorem chk_cons (last : Int) (p : S55) (ps : List S55) : chk last (p :: ps) = if wr last p = 0 then chk p.f0 ps else wr last p := by
  simp only [chk, wr]
  by_cases h1 : 0 ≤ p.f0 ∧ p.f0 < 3600 ∧ -900 ≤ p.f1 ∧ p.f1 ≤ 900
  · simp only [h1, not_true_eq_false, if_false, and_self]
    by_cases h2 : p.f0 = last
    · simp [h2]
    · simp only [h2, if_false]
      by_cases h3 : p.f0 < last
      · simp [h3]
      · simp [h3]
  · simp [h1]
theorem wrong_wr {k : Nat} (hk : 1 ≤ k) (p : S55) (last : Int) : card_wrong.f k p.f0 last p.f1 p.f1 = some (wr last p) := by
  rw [wrong_f hk]
  unfold wr
  congr 1
  have : (0 ≤ p.f0 ∧ p.f0 < 3600 ∧ -900 ≤ p.f1 ∧ p.f1 ≤ p.f1 ∧ p.f1 ≤ 900) = (0 ≤ p.f0 ∧ p.f0 < 3600 ∧ -900 ≤ p.f1 ∧ p.f1 ≤ 900) := by
    apply propext; omega
  simp only [this]
theorem kcheck_l : ∀ (n : Nat) (l : List S55) (i : Nat) (k : Nat) (last : Int), i + n = l.length → l.length < 1000000 → n + 2 ≤ k → card_Known_check.l0 k last (l.map asK) (l.length : Int) (i : Int) = some (chk last (l.drop i))
  | 0, l, i, k, last, h, hl, hk => by
    obtain ⟨k, rfl⟩ : ∃ k', k = k' + 1 := ⟨k - 1, by omega⟩
    unfold card_Known_check.l0
    rw [if_neg (by omega), List.drop_of_length_le (by omega)]
    rfl
  | n + 1, l, i, k, last, h, hl, hk => by
    obtain ⟨k, rfl⟩ : ∃ k', k = k' + 1 := ⟨k - 1, by omega⟩
    have hi : i < l.length := by omega
    unfold card_Known_check.l0
    rw [if_pos (by omega), if_pos (by omega), if_pos (by rw [List.length_map]; omega), rd_get92 (by rw [List.length_map]; exact hi), List.getElem_map]
    show (card_wrong.f k l[i].f0 last l[i].f1 l[i].f1).bind _ = _
    rw [wrong_wr (by omega), Option.bind_some, List.drop_eq_getElem_cons hi, chk_cons]
    by_cases h0 : wr last l[i] = 0
    · rw [if_pos h0, if_pos h0, w64 (by omega) (by omega), show ((i : Int) + 1) = ((i + 1 : Nat) : Int) by omega]
      exact kcheck_l n l (i + 1) k _ (by omega) hl (by omega)
    · rw [if_neg h0, if_neg h0]
theorem Check_f {l : List S55} {k : Nat} (hl : l.length < 1000000) (hk : l.length + 2 ≤ k) : card_Check.f k l = some (chkAll l) := by
  unfold card_Check.f
  rw [known_f hl (by omega), Option.bind_some]
  unfold card_Known_check.f chkAll
  rw [List.length_map]
  by_cases h1 : l.length = 0
  · rw [if_pos (by omega), if_pos h1]; rfl
  · rw [if_neg (by omega), if_neg h1]
    by_cases h2 : l.length > 36
    · rw [if_pos (by omega), if_pos h2]; rfl
    · rw [if_neg (by omega), if_neg h2]
      have := kcheck_l l.length l 0 k (-1) (by omega) hl hk
      rw [List.drop_zero] at this
      exact (congrArg (fun z => Option.bind z fun t => some t) this)
/-- A point in the reference's type. -/
def cv (p : S55) : S54 := ⟨p.f0, p.f1⟩
theorem rd_cv {l : List S55} {i : Nat} (h : i < l.length) : rd_T54 (l.map cv) (i : Int) = cv l[i] := by
  unfold rd_T54
  rw [List.getD_eq_getElem?_getD, Int.toNat_natCast, List.getElem?_map, List.getElem?_eq_getElem h]; rfl
end Go.Proofs.Ytccjefoejjnccaa.M
/- What is proved here: the deviation on a fraction is the exact one, of the program and of the reference. -/
namespace Go.Proofs.Ytccjefoejjnccaa.M
open Go.Proofs.Ytccjefoejjnccaa Go.RowKit Go.Proofs.Ytccjefoejjnccaa.C Go.Proofs.Ytccjefoejjnccaa.H Go.Proofs.YtccjefoejjnccaaW.PrintWords Go.Proofs.YtccjefoejjnccaaW.PrintLast Go.Proofs.YtccjefoejjnccaaW.PrintMore
set_option linter.unusedSimpArgs false
set_option linter.unusedVariables false
/-- Heading and deviation at the beginning of segment i; the end of the last one lies a turn behind the first point. -/
def hd (l : List S55) (i : Nat) : Int := if i < l.length then (l.getD i z55).f0 else (l.getD 0 z55).f0 + 3600
def dv (l : List S55) (i : Nat) : Int := if i < l.length then (l.getD i z55).f1 else (l.getD 0 z55).f1
structure Valid (l : List S55) : Prop where
  pos : 0 < l.length
  le : l.length ≤ 36
  hr : ∀ i, i < l.length → 0 ≤ hd l i ∧ hd l i < 3600
  dr : ∀ i, -900 ≤ dv l i ∧ dv l i ≤ 900
  mono : ∀ i j, i < j → j ≤ l.length → hd l i < hd l j
theorem Valid.last {l : List S55} (_ : Valid l) : hd l l.length = hd l 0 + 3600 ∧ dv l l.length = dv l 0 := by
  have := ‹Valid l›.pos
  unfold hd dv
  rw [if_neg (by omega), if_pos this, if_neg (by omega), if_pos this]
  exact ⟨rfl, rfl⟩
theorem Valid.mono' {l : List S55} (h : Valid l) {i j : Nat} (hij : i ≤ j) (hj : j ≤ l.length) : hd l i ≤ hd l j := by
  rcases Nat.lt_or_eq_of_le hij with h1 | rfl
  · exact Int.le_of_lt (h.mono i j h1 hj)
  · exact Int.le_refl _
def okP (p : S55) : Prop := 0 ≤ p.f0 ∧ p.f0 < 3600 ∧ -900 ≤ p.f1 ∧ p.f1 ≤ 900
theorem chk_iff : ∀ (l : List S55) (last : Int), chk last l = 0 ↔ (∀ p ∈ l, okP p ∧ last < p.f0) ∧ l.Pairwise (fun a b => a.f0 < b.f0)
  | [], last => by simp [chk]
  | p :: ps, last => by
    have ih := chk_iff ps p.f0
    rw [List.pairwise_cons]
    constructor
    · intro h
      simp only [chk] at h
      by_cases h1 : 0 ≤ p.f0 ∧ p.f0 < 3600 ∧ -900 ≤ p.f1 ∧ p.f1 ≤ 900
      · rw [if_neg (fun hn => hn h1)] at h
        by_cases h2 : p.f0 = last
        · rw [if_pos h2] at h; omega
        · rw [if_neg h2] at h
          by_cases h3 : p.f0 < last
          · rw [if_pos h3] at h; omega
          · rw [if_neg h3] at h
            obtain ⟨e1, e2⟩ := ih.1 h
            refine ⟨fun q hq => ?_, fun q hq => (e1 q hq).2, e2⟩
            rcases List.mem_cons.1 hq with rfl | hq
            · exact ⟨h1, by omega⟩
            · have := (e1 q hq).2
              exact ⟨(e1 q hq).1, by omega⟩
      · rw [if_pos h1] at h; omega
    · rintro ⟨e1, e2, e3⟩
      have hp := e1 p (by simp)
      simp only [chk]
      rw [if_neg (fun hn => hn hp.1), if_neg (by omega), if_neg (by omega)]
      exact ih.2 ⟨fun q hq => ⟨(e1 q (by simp [hq])).1, e2 q hq⟩, e3⟩
theorem getD_lt {l : List S55} {i : Nat} (h : i < l.length) : l.getD i z55 = l[i] := by
  rw [List.getD_eq_getElem?_getD, List.getElem?_eq_getElem h]; rfl
theorem valid_of_chk {l : List S55} (h : chkAll l = 0) : Valid l := by
  unfold chkAll at h
  by_cases h1 : l.length = 0
  · rw [if_pos h1] at h; omega
  · rw [if_neg h1] at h
    by_cases h2 : l.length > 36
    · rw [if_pos h2] at h; omega
    · rw [if_neg h2] at h
      obtain ⟨e1, e2⟩ := (chk_iff l (-1)).1 h
      have hr : ∀ i, i < l.length → 0 ≤ hd l i ∧ hd l i < 3600 := fun i hi => by
        unfold hd
        rw [if_pos hi, getD_lt hi]
        have := (e1 l[i] (List.getElem_mem hi)).1
        exact ⟨this.1, this.2.1⟩
      refine ⟨by omega, by omega, hr, fun i => ?_, fun i j hij hj => ?_⟩
      · unfold dv
        split
        · rename_i hi
          rw [getD_lt hi]
          exact ⟨(e1 _ (List.getElem_mem hi)).1.2.2.1, (e1 _ (List.getElem_mem hi)).1.2.2.2⟩
        · rw [getD_lt (by omega)]
          exact ⟨(e1 _ (List.getElem_mem (by omega))).1.2.2.1, (e1 _ (List.getElem_mem (by omega))).1.2.2.2⟩
      · rcases Nat.lt_or_eq_of_le hj with hj | rfl
        · have := List.pairwise_iff_getElem.1 e2 i j (by omega) hj hij
          unfold hd
          rw [if_pos (by omega), if_pos hj, getD_lt (by omega), getD_lt hj]
          exact this
        · have a := hr i hij
          have b := hr 0 (by omega)
          unfold hd at a b ⊢
          rw [if_pos (by omega)] at a b ⊢
          rw [if_neg (by omega)]
          omega
theorem seg_eq {l : List S55} (h : Valid l) {i : Nat} (hi : i < l.length) : seg l i = (⟨hd l i, dv l i⟩, ⟨hd l (i + 1), dv l (i + 1)⟩) := by
  have h0 := h.hr 0 h.pos
  have e0 : hd l 0 = (l.getD 0 z55).f0 := by unfold hd; rw [if_pos h.pos]
  unfold seg
  have r : ∀ j : Nat, rd_T55 l (j : Int) = l.getD j z55 := fun j => rfl
  have r0 : rd_T55 l 0 = l.getD 0 z55 := rfl
  have ea : rd_T55 l (i : Int) = ⟨hd l i, dv l i⟩ := by rw [r]; unfold hd dv; rw [if_pos hi, if_pos hi]
  rw [ea]
  by_cases hl : i + 1 = l.length
  · rw [if_pos hl, r0, w64 (by omega) (by omega)]
    unfold hd dv
    rw [if_neg (show ¬ i + 1 < l.length by omega), if_neg (show ¬ i + 1 < l.length by omega)]
  · rw [if_neg hl, show ((i : Int) + 1) = ((i + 1 : Nat) : Int) by omega, r]
    unfold hd dv
    rw [if_pos (show i + 1 < l.length by omega), if_pos (show i + 1 < l.length by omega)]
theorem segs_mem {l : List S55} {x : S55 × S55} (h : x ∈ segs l) : ∃ i, i < l.length ∧ x = seg l i := by
  obtain ⟨i, hi, rfl⟩ := List.mem_map.1 h
  exact ⟨i, List.mem_range.1 hi, rfl⟩
theorem seg_first {l : List S55} (h : Valid l) {N d : Int} (hd0 : 1 ≤ d) {i : Nat} (hi : i < l.length) (h1 : hd l i * d ≤ N) (j : Nat) (hj : j < i) : ¬ N < hd l (j + 1) * d := by
  have := Int.mul_le_mul_of_nonneg_right (h.mono' (show j + 1 ≤ i by omega) (by omega)) (show 0 ≤ d by omega)
  omega
/-- The deviation on N / d in segment i: numerator and denominator, not reduced. -/
def devN (l : List S55) (i : Nat) (N d : Int) : Int := dv l i * ((hd l (i + 1) - hd l i) * d) + (N - hd l i * d) * (dv l (i + 1) - dv l i)
def devD (l : List S55) (i : Nat) (d : Int) : Int := (hd l (i + 1) - hd l i) * d
theorem Valid.len {l : List S55} (h : Valid l) {i : Nat} (hi : i < l.length) : 1 ≤ hd l (i + 1) - hd l i ∧ hd l (i + 1) - hd l i ≤ 3600 ∧ hd l i < 3600 ∧ hd l (i + 1) < 7200 ∧ 0 ≤ hd l i ∧ 0 ≤ hd l (i + 1) := by
  have h1 := h.mono i (i + 1) (by omega) (by omega)
  have h2 := h.hr i hi
  have h3 := h.last
  have h4 := h.mono' (show 0 ≤ i by omega) (show i ≤ l.length by omega)
  have h5 := h.mono' (show i + 1 ≤ l.length by omega) (Nat.le_refl _)
  have h6 := h.hr 0 h.pos
  omega
theorem prod_le {a b A B : Int} (h0 : 0 ≤ a) (h1 : a ≤ A) (h2 : 0 ≤ b) (h3 : b ≤ B) : 0 ≤ a * b ∧ a * b ≤ A * B :=
  ⟨Int.mul_nonneg h0 h2, Int.le_trans (Int.mul_le_mul_of_nonneg_right h1 h2) (Int.mul_le_mul_of_nonneg_left h3 (by omega))⟩
end Go.Proofs.Ytccjefoejjnccaa.M
/- What is proved here: the deviation on a fraction is the exact one, of the program and of the reference. -/
namespace Go.Proofs.Ytccjefoejjnccaa.M
open Go.Proofs.Ytccjefoejjnccaa Go.RowKit Go.Proofs.Ytccjefoejjnccaa.C Go.Proofs.Ytccjefoejjnccaa.H Go.Proofs.YtccjefoejjnccaaW.PrintWords Go.Proofs.YtccjefoejjnccaaW.PrintLast Go.Proofs.YtccjefoejjnccaaW.PrintMore
set_option linter.unusedSimpArgs false
set_option linter.unusedVariables false
/-- What the deviation of a fraction is. -/
structure DevIs (l : List S55) (N d p q : Int) (i : Nat) : Prop where
  hi : i < l.length
  lo : hd l i * d ≤ N
  hi' : N < hd l (i + 1) * d
  is : IsR p q (devN l i N d) (devD l i d)
/-- A fraction of a turn, a turn later where it lies before the first point. -/
def inTurn (l : List S55) (N d : Int) : Int := if N < hd l 0 * d then N + 3600 * d else N
-- the reference
theorem rseg_f {l : List S55} (h : Valid l) {i : Nat} (hi : i < l.length) : agonicref05_segment.f (l.map cv) (i : Int) = some (hd l i, dv l i, hd l (i + 1), dv l (i + 1)) := by
  have h0 := h.hr 0 h.pos
  have hp := h.pos
  have hle := h.le
  have e0 : hd l 0 = (l.getD 0 z55).f0 := by unfold hd; rw [if_pos h.pos]
  have e1 : hd l i = l[i].f0 := by unfold hd; rw [if_pos hi, getD_lt hi]
  have e2 : dv l i = l[i].f1 := by unfold dv; rw [if_pos hi, getD_lt hi]
  unfold agonicref05_segment.f
  rw [List.length_map, w64 (by omega) (by omega), rd_cv hi]
  by_cases hl : i + 1 < l.length
  · have e3 : hd l (i + 1) = l[i + 1].f0 := by unfold hd; rw [if_pos hl, getD_lt hl]
    have e4 : dv l (i + 1) = l[i + 1].f1 := by unfold dv; rw [if_pos hl, getD_lt hl]
    rw [if_pos (by omega), if_pos (by omega), if_pos (by omega), if_pos (by omega), show ((i : Int) + 1) = ((i + 1 : Nat) : Int) by omega, rd_cv hl, e1, e2, e3, e4]
    rfl
  · have er : rd_T54 (l.map cv) 0 = cv l[0] := rd_cv (i := 0) (by omega)
    have e5 : hd l (i + 1) = l[0].f0 + 3600 := by unfold hd; rw [if_neg hl, getD_lt (by omega)]
    have e6 : dv l (i + 1) = l[0].f1 := by unfold dv; rw [if_neg hl, getD_lt (by omega)]
    have e7 : hd l 0 = l[0].f0 := by rw [e0, getD_lt (by omega)]
    rw [if_neg (by omega), if_pos (by omega), if_pos (by omega), if_pos (by omega), er, e1, e2, e5, e6]
    show some (l[i].f0, l[i].f1, wrap64 (l[0].f0 + 3600), l[0].f1) = _
    rw [w64 (by omega) (by omega)]
theorem whole_f (a : Int) : agonicref05_whole.f a = some (a, 1) := rfl
end Go.Proofs.Ytccjefoejjnccaa.M
/- What is proved here: cards are checked, deviations and folds are told alike by the program and the reference. -/
namespace Go.Proofs.Ytccjefoejjnccaa.M
open Go.Proofs.Ytccjefoejjnccaa Go.RowKit Go.Proofs.Ytccjefoejjnccaa.C Go.Proofs.Ytccjefoejjnccaa.H Go.Proofs.YtccjefoejjnccaaW.PrintWords Go.Proofs.YtccjefoejjnccaaW.PrintLast Go.Proofs.YtccjefoejjnccaaW.PrintMore
set_option linter.unusedSimpArgs false
set_option linter.unusedVariables false
/-- The magnetic course at the beginning of segment i. -/
def cr (l : List S55) (i : Nat) : Int := hd l i + dv l i
theorem Valid.cr_bd {l : List S55} (h : Valid l) {i : Nat} (hi : i ≤ l.length) : -900 ≤ cr l i ∧ cr l i < 8100 := by
  have h1 := h.mono' (show 0 ≤ i by omega) hi
  have h2 := h.mono' hi (Nat.le_refl _)
  have h3 := h.hr 0 h.pos
  have h4 := h.last.1
  have h5 := h.dr i
  unfold cr
  omega
theorem rise_f {l : List S55} (h : Valid l) {i : Nat} (hi : i < l.length) : agonicref05_rise.f (l.map cv) (i : Int) = some (cr l (i + 1) - cr l i) := by
  obtain ⟨b1, b2, b3, b4, b5, b6⟩ := h.len hi
  have c1 := h.dr i
  have c2 := h.dr (i + 1)
  unfold agonicref05_rise.f
  rw [rseg_f h hi, Option.bind_some]
  dsimp only
  rw [w64 (x := hd l (i + 1) - hd l i) (by omega) (by omega), w64 (x := hd l (i + 1) - hd l i + dv l (i + 1)) (by omega) (by omega), w64 (by omega) (by omega)]
  unfold cr
  congr 1
  omega
end Go.Proofs.Ytccjefoejjnccaa.M
/- What is proved here: the compass courses on a segment, reckoned by the program and by the reference, are the exact ones. -/
namespace Go.Proofs.Ytccjefoejjnccaa.M
open Go.Proofs.Ytccjefoejjnccaa Go.RowKit Go.Proofs.Ytccjefoejjnccaa.C Go.Proofs.Ytccjefoejjnccaa.H Go.Proofs.YtccjefoejjnccaaW.PrintWords Go.Proofs.YtccjefoejjnccaaW.PrintLast Go.Proofs.YtccjefoejjnccaaW.PrintMore
set_option linter.unusedSimpArgs false
set_option linter.unusedVariables false
/-- A magnetic course is met on segment i: its beginning counts, its end does not. -/
def inSeg (l : List S55) (i : Nat) (m : Int) : Bool := decide (cr l i ≤ m ∧ m < cr l (i + 1) ∨ cr l (i + 1) < m ∧ m ≤ cr l i)
/-- The compass course there: a fraction, not reduced, up to a turn too great. -/
def crsN (l : List S55) (i : Nat) (m : Int) : Int := hd l i * (cr l (i + 1) - cr l i) + (m - cr l i) * (hd l (i + 1) - hd l i)
def crsD (l : List S55) (i : Nat) : Int := cr l (i + 1) - cr l i
/-- It reduced, and brought back into a turn. -/
def CrsIs (l : List S55) (i : Nat) (m p q : Int) : Prop := ∃ p0, IsR p0 q (crsN l i m) (crsD l i) ∧ p = p0 % (3600 * q)
theorem inSeg_iff {l : List S55} {i : Nat} {m : Int} : inSeg l i m = true ↔ cr l i ≤ m ∧ m < cr l (i + 1) ∨ cr l (i + 1) < m ∧ m ≤ cr l i := by
  unfold inSeg
  rw [decide_eq_true_eq]
theorem abs_mul_le {a b A B : Int} (h1 : a.natAbs ≤ A) (h2 : 0 ≤ b) (h3 : b ≤ B) : -(A * B) ≤ a * b ∧ a * b ≤ A * B := mul_bd (by omega) (by omega) h2 h3
/-- What both compute of a hit. -/
theorem hit_parts {l : List S55} (h : Valid l) {i : Nat} (hi : i < l.length) {m : Int} (hm : inSeg l i m = true) :
    crsD l i ≠ 0 ∧ -5400 ≤ crsD l i ∧ crsD l i ≤ 5400 ∧ -5400 ≤ m - cr l i ∧ m - cr l i ≤ 5400 ∧ -20000000 ≤ (m - cr l i) * (hd l (i + 1) - hd l i) ∧ (m - cr l i) * (hd l (i + 1) - hd l i) ≤ 20000000 ∧
    ∀ t1 t2, IsR t1 t2 ((m - cr l i) * (hd l (i + 1) - hd l i)) (crsD l i) → 0 ≤ t1 ∧ t1 < (hd l (i + 1) - hd l i) * t2 ∧ Fit t1 t2 (hd l i) 1 (crsD l i).natAbs 3600 3600 ∧ Fit (hd l i) 1 t1 t2 (crsD l i).natAbs 3600 3600 ∧
      ∀ p0 q, IsR p0 q (t1 * 1 + hd l i * t2) t2 → IsR p0 q (crsN l i m) (crsD l i) ∧ q ∣ ((crsD l i).natAbs : Int) ∧ q ≤ 5400 ∧ 0 ≤ p0 ∧ p0 < 7200 * q ∧ hd l i * q ≤ p0 ∧ p0 < hd l (i + 1) * q := by
  obtain ⟨b1, b2, b3, b4, b5, b6⟩ := h.len hi
  have c1 := h.dr i
  have c2 := h.dr (i + 1)
  have hR : crsD l i = (hd l (i + 1) - hd l i) + (dv l (i + 1) - dv l i) := by unfold crsD cr; omega
  rw [inSeg_iff] at hm
  have hD : crsD l i = cr l (i + 1) - cr l i := rfl
  have m1 := abs_mul_le (a := m - cr l i) (A := 5400) (b := hd l (i + 1) - hd l i) (B := 3600) (by omega) (by omega) (by omega)
  refine ⟨by omega, by omega, by omega, by omega, by omega, by omega, by omega, fun t1 t2 ht => ?_⟩
  generalize hL : hd l (i + 1) - hd l i = L at *
  generalize hR' : crsD l i = R at *
  generalize hu : m - cr l i = u at *
  have ht' := ht
  obtain ⟨ht2, htc, hte⟩ := ht
  have v2 : t2 ∣ R := isR_dvd ht' (Int.dvd_refl _)
  have hR0 : R ≠ 0 := by omega
  have hur : 0 ≤ u ∧ u < R ∨ R < u ∧ u ≤ 0 := by omega
  have ht0 : 0 ≤ t1 ∧ t1 < L * t2 := by
    rcases hur with ⟨h1, h2⟩ | ⟨h1, h2⟩
    · have n1 : 0 ≤ u * L := Int.mul_nonneg h1 (by omega)
      have n2 : u * L < L * R := by rw [Int.mul_comm]; exact Int.mul_lt_mul_of_pos_left h2 (by omega)
      constructor
      · have := isR_bd (A := 0) (p := -t1) (q := t2) (n := -(u * L)) (d := R) ⟨ht2, by rw [Int.neg_gcd]; exact htc, by grind⟩ (by omega)
        by_cases hneg : t1 < 0
        · have : t1 * R < 0 := Int.mul_neg_of_neg_of_pos hneg (by omega)
          have : 0 ≤ u * L * t2 := Int.mul_nonneg n1 (by omega)
          omega
        · omega
      · exact (isR_lt ht' (by omega) L).2 n2
    · have hflip : IsR t1 t2 ((-u) * L) (-R) := isR_conv hR0 ht' (by grind)
      have n1 : 0 ≤ (-u) * L := Int.mul_nonneg (by omega) (by omega)
      have n2 : (-u) * L < L * (-R) := by rw [Int.mul_comm]; exact Int.mul_lt_mul_of_pos_left (by omega) (by omega)
      constructor
      · by_cases hneg : t1 < 0
        · have e := hflip.2.2
          have : t1 * (-R) < 0 := Int.mul_neg_of_neg_of_pos hneg (by omega)
          have : 0 ≤ (-u) * L * t2 := Int.mul_nonneg n1 (by omega)
          omega
        · omega
      · exact (isR_lt hflip (by omega) L).2 n2
  have hLt : L * t2 ≤ 3600 * t2 := Int.mul_le_mul_of_nonneg_right b2 (by omega)
  have vP : t2 ∣ (R.natAbs : Int) := by
    rw [← Int.natAbs_dvd_natAbs] at v2 ⊢
    simpa using v2
  have hP : 1 ≤ (R.natAbs : Int) := by omega
  refine ⟨ht0.1, ht0.2, ⟨ht2, by omega, vP, Int.one_dvd _, hP, by omega, by omega, by omega, by omega, by omega, by omega, by omega, by omega⟩, ⟨by omega, ht2, Int.one_dvd _, vP, hP, by omega, by omega, by omega, by omega, by omega, by omega, by omega, by omega⟩, fun p0 q hr => ?_⟩
  have hq := hr.1
  have vq : q ∣ (R.natAbs : Int) := isR_dvd hr vP
  have qle : q ≤ 5400 := Int.le_trans (Int.le_of_dvd (by omega) vq) (by omega)
  have hlo : hd l i * q ≤ p0 := by
    have := isR_lt hr ht2 (hd l i)
    have : ¬ (t1 * 1 + hd l i * t2 < hd l i * t2) := by omega
    omega
  have hup : p0 < hd l (i + 1) * q := by
    refine (isR_lt hr ht2 _).2 ?_
    have : hd l (i + 1) * t2 = hd l i * t2 + L * t2 := by rw [← hL]; grind
    omega
  have z0 : 0 ≤ hd l i * q := Int.mul_nonneg b5 (by omega)
  have z1 : hd l (i + 1) * q ≤ 7200 * q := Int.mul_le_mul_of_nonneg_right (by omega) (by omega)
  refine ⟨isR_conv (by omega) hr ?_, vq, qle, by omega, by omega, hlo, hup⟩
  unfold crsN
  rw [hL, hu, ← hD]
  have e1 : (t1 * 1 + hd l i * t2) * R = t1 * R + hd l i * t2 * R := by grind
  rw [e1, hte]; grind
theorem courseAt_f {l : List S55} (h : Valid l) {i : Nat} (hi : i < l.length) {k : Nat} (hk : 132 ≤ k) {m : Int} (hm : inSeg l i m = true) :
    ∃ p q, courseAt k (seg l i) m = some (p, q) ∧ CrsIs l i m p q ∧ 1 ≤ q ∧ q ≤ 5400 ∧ 0 ≤ p ∧ p < 3600 * q ∧ Int.gcd p q = 1 := by
  obtain ⟨hD0, d1, d2, u1, u2, n1, n2, hx⟩ := hit_parts h hi hm
  unfold courseAt
  rw [seg_eq h hi]
  dsimp only
  have e1 : m - (hd l i + dv l i) = m - cr l i := rfl
  have e2 : hd l (i + 1) + dv l (i + 1) - (hd l i + dv l i) = crsD l i := rfl
  rw [e1, e2, w64 (by omega) (by omega)]
  obtain ⟨t1, t2, ht, hr, _⟩ := plain_f (k := k) (by omega) (n := (m - cr l i) * (hd l (i + 1) - hd l i)) (d := crsD l i) (by omega) (by omega) (by omega) (by omega) hD0
  obtain ⟨_, _, hf, _, hp⟩ := hx t1 t2 hr
  obtain ⟨p0, q, hs, hr2, _⟩ := plus1_f hk hf
  rw [Int.mul_one] at hr2
  rw [ht, Option.bind_some, hs, Option.bind_some]
  obtain ⟨g1, g2, g3, g4, g5, _⟩ := hp p0 q (by rw [Int.mul_one]; exact (by rw [Int.mul_one] at hr2; exact hr2))
  have hq := hr2.1
  rw [around_f hq (by omega) (by omega) (by omega)]
  have ha := isR_around hr2
  have m0 := Int.emod_nonneg p0 (b := 3600 * q) (by omega)
  have m1 := Int.emod_lt_of_pos p0 (b := 3600 * q) (by omega)
  exact ⟨_, _, rfl, ⟨p0, g1, rfl⟩, hq, g3, m0, m1, ha.2.1⟩
theorem CrsIs.same {l : List S55} {i : Nat} {m p q p' q' : Int} (hd0 : crsD l i ≠ 0) (h : CrsIs l i m p q) (h' : CrsIs l i m p' q') : p = p' ∧ q = q' := by
  obtain ⟨a, h1, rfl⟩ := h
  obtain ⟨b, h2, rfl⟩ := h'
  obtain ⟨rfl, rfl⟩ := isR_unique hd0 h1 h2
  exact ⟨rfl, rfl⟩
/-- The reduced fraction of a hit, by name. -/
def crs (l : List S55) (i : Nat) (m : Int) : S101 := match card_ratio_plain.f 200 (crsN l i m) (crsD l i) with
  | some (p, q) => ⟨p % (3600 * q), q⟩
  | none => z101
theorem crs_eq {l : List S55} (h : Valid l) {i : Nat} (hi : i < l.length) {m p q : Int} (hm : inSeg l i m = true) (hc : CrsIs l i m p q) : crs l i m = ⟨p, q⟩ := by
  obtain ⟨hD0, d1, d2, u1, u2, n1, n2, hx⟩ := hit_parts h hi hm
  obtain ⟨b1, b2, b3, b4, b5, b6⟩ := h.len hi
  have e : crsN l i m = hd l i * crsD l i + (m - cr l i) * (hd l (i + 1) - hd l i) := rfl
  have k1 := abs_mul_le (a := crsD l i) (A := 5400) (b := hd l i) (B := 3600) (by omega) (by omega) (by omega)
  have k2 : hd l i * crsD l i = crsD l i * hd l i := Int.mul_comm _ _
  obtain ⟨p', q', e1, r1, _⟩ := plain_f (k := 200) (by omega) (n := crsN l i m) (d := crsD l i) (by omega) (by omega) (by omega) (by omega) hD0
  unfold crs
  rw [e1]
  obtain ⟨rfl, rfl⟩ := CrsIs.same hD0 ⟨p', r1, rfl⟩ hc
  rfl
theorem courseAt_crs {l : List S55} (h : Valid l) {i : Nat} (hi : i < l.length) {k : Nat} (hk : 132 ≤ k) {m : Int} (hm : inSeg l i m = true) :
    courseAt k (seg l i) m = some ((crs l i m).f0, (crs l i m).f1) ∧ CrsIs l i m (crs l i m).f0 (crs l i m).f1 ∧ 1 ≤ (crs l i m).f1 ∧ (crs l i m).f1 ≤ 5400 ∧ 0 ≤ (crs l i m).f0 ∧ (crs l i m).f0 < 3600 * (crs l i m).f1 ∧ Int.gcd (crs l i m).f0 (crs l i m).f1 = 1 := by
  obtain ⟨p, q, e, hc, r⟩ := courseAt_f h hi hk hm
  rw [crs_eq h hi hm hc]
  exact ⟨e, hc, r⟩
end Go.Proofs.Ytccjefoejjnccaa.M
/- What is proved here: the compass courses of a heading that the program tells are those of all hits, sorted. -/
namespace Go.Proofs.Ytccjefoejjnccaa.M
open Go.Proofs.Ytccjefoejjnccaa Go.RowKit Go.Proofs.Ytccjefoejjnccaa.C Go.Proofs.Ytccjefoejjnccaa.H Go.Proofs.YtccjefoejjnccaaW.PrintWords Go.Proofs.YtccjefoejjnccaaW.PrintLast Go.Proofs.YtccjefoejjnccaaW.PrintMore
set_option linter.unusedSimpArgs false
set_option linter.unusedVariables false
/-- The numbers s, s + 3600, .. (n of them) that fit. -/
def runM (P : Int → Bool) (s : Int) : Nat → List Int
  | 0 => []
  | n + 1 => runM P s n ++ if P (s + 3600 * (n : Int)) then [s + 3600 * (n : Int)] else []
theorem run_succ (P : Int → Bool) (s : Int) (n : Nat) : runM P s (n + 1) = runM P s n ++ if P (s + 3600 * (n : Int)) then [s + 3600 * (n : Int)] else [] := rfl
theorem run_tail {P : Int → Bool} {s : Int} {n : Nat} : ∀ m, n ≤ m → (∀ i, n ≤ i → i < m → P (s + 3600 * (i : Int)) = false) → runM P s m = runM P s n
  | 0, h, _ => by obtain rfl : n = 0 := by omega
                  rfl
  | m + 1, h, hP => by
    rcases Nat.lt_or_eq_of_le h with h1 | rfl
    · rw [run_succ, hP m (by omega) (by omega), run_tail m (by omega) (fun i h1 h2 => hP i h1 (by omega))]
      simp
    · rfl
theorem run_none {P : Int → Bool} {s : Int} (m : Nat) (hP : ∀ i, i < m → P (s + 3600 * (i : Int)) = false) : runM P s m = [] :=
  run_tail (n := 0) m (by omega) (fun i _ h => hP i h)
theorem run_add {P : Int → Bool} {s : Int} (j : Nat) : ∀ r, runM P s (j + r) = runM P s j ++ runM P (s + 3600 * (j : Int)) r
  | 0 => by simp [runM]
  | r + 1 => by
    have e : s + 3600 * (j : Int) + 3600 * (r : Int) = s + 3600 * ((j + r : Nat) : Int) := by omega
    rw [← Nat.add_assoc, run_succ, run_add j r, run_succ, e, List.append_assoc]
theorem run_congr {P P' : Int → Bool} {s : Int} : ∀ n : Nat, (∀ i, i < n → P (s + 3600 * (i : Int)) = P' (s + 3600 * (i : Int))) → runM P s n = runM P' s n
  | 0, _ => rfl
  | n + 1, h => by
    rw [run_succ, run_succ, run_congr n (fun i hi => h i (by omega)), h n (by omega)]
theorem run_mem {P : Int → Bool} {s : Int} {x : Int} : ∀ n : Nat, x ∈ runM P s n ↔ ∃ i : Nat, i < n ∧ x = s + 3600 * (i : Int) ∧ P x = true
  | 0 => by simp [runM]
  | n + 1 => by
    rw [run_succ, List.mem_append, run_mem n]
    constructor
    · rintro (⟨i, hi, e⟩ | h)
      · exact ⟨i, by omega, e⟩
      · split at h
        · rename_i hp
          obtain rfl : x = s + 3600 * (n : Int) := by simpa using h
          exact ⟨n, by omega, rfl, hp⟩
        · simp at h
    · rintro ⟨i, hi, e, hp⟩
      rcases Nat.lt_or_ge i n with h | h
      · exact .inl ⟨i, h, e, hp⟩
      · obtain rfl : i = n := by omega
        refine .inr ?_
        rw [← e, if_pos hp]; simp
/-- The magnetic courses that are met on segment i, with turns from -2 to 2. -/
def hitsM (l : List S55) (mag : Int) (i : Nat) : List Int := runM (inSeg l i) (mag - 7200) 5
/-- All compass headings of segment i have the magnetic course. -/
def flatS (l : List S55) (mag : Int) (i : Nat) : Prop := cr l i = cr l (i + 1) ∧ ∃ t : Nat, t < 5 ∧ cr l i = mag - 7200 + 3600 * (t : Int)
theorem solM_eq {l : List S55} (h : Valid l) {i : Nat} (hi : i < l.length) {mag : Int} (h0 : 0 ≤ mag) (h1 : mag < 3600) :
    ∃ j : Nat, 1 ≤ j ∧ j ≤ 5 ∧ (∀ n, solM mag (seg l i) n = mag - 7200 + 3600 * ((j + n : Nat) : Int)) ∧ solM mag (seg l i) 0 - 3600 < segLo (seg l i) ∧ segLo (seg l i) ≤ solM mag (seg l i) 0 ∧
      segLo (seg l i) = (if cr l i ≤ cr l (i + 1) then cr l i else cr l (i + 1)) ∧ segHi (seg l i) = (if cr l i ≤ cr l (i + 1) then cr l (i + 1) else cr l i) := by
  have c1 := h.cr_bd (show i ≤ l.length by omega)
  have c2 := h.cr_bd (show i + 1 ≤ l.length by omega)
  have e1 : segLo (seg l i) = (if cr l i ≤ cr l (i + 1) then cr l i else cr l (i + 1)) := by
    unfold segLo; rw [seg_eq h hi]; dsimp only; unfold mn cr; split <;> split <;> omega
  have e2 : segHi (seg l i) = (if cr l i ≤ cr l (i + 1) then cr l (i + 1) else cr l i) := by
    unfold segHi; rw [seg_eq h hi]; dsimp only; unfold mx cr; split <;> split <;> omega
  have b : -900 ≤ segLo (seg l i) ∧ segLo (seg l i) < 8100 := by rw [e1]; split <;> omega
  have k0 := Int.emod_nonneg (mag - segLo (seg l i)) (b := 3600) (by omega)
  have k1 := Int.emod_lt_of_pos (mag - segLo (seg l i)) (b := 3600) (by omega)
  have k2 := Int.emod_add_mul_ediv (mag - segLo (seg l i)) 3600
  refine ⟨(2 - (mag - segLo (seg l i)) / 3600).toNat, by omega, by omega, fun n => ?_, ?_, ?_, e1, e2⟩
  · unfold solM; omega
  · unfold solM; omega
  · unfold solM; omega
theorem solN_spec {mag : Int} {x : S55 × S55} : (∀ n, n < solN mag x → solM mag x n ≤ segHi x) ∧ ∀ n, solN mag x ≤ n → segHi x < solM mag x n := by
  have hs : ∀ n, solM mag x n = solM mag x 0 + 3600 * (n : Int) := fun n => by unfold solM; omega
  unfold solN
  constructor <;> intro n hn <;> rw [hs n] <;> omega
/-- What the program goes through on a segment are its hits. -/
theorem run_hits {l : List S55} (h : Valid l) {i : Nat} (hi : i < l.length) {mag : Int} (h0 : 0 ≤ mag) (h1 : mag < 3600) (hne : cr l i ≠ cr l (i + 1)) :
    runM (fun m => decide (m ≠ cr l (i + 1))) (solM mag (seg l i) 0) (solN mag (seg l i)) = hitsM l mag i ∧ ∀ n, n < solN mag (seg l i) → (solM mag (seg l i) n ≠ cr l (i + 1) → inSeg l i (solM mag (seg l i) n) = true) := by
  obtain ⟨j, j1, j5, hs, s0, s1, e1, e2⟩ := solM_eq h hi h0 h1
  obtain ⟨n1, n2⟩ := solN_spec (mag := mag) (x := seg l i)
  have c2 := h.cr_bd (show i + 1 ≤ l.length by omega)
  have c1 := h.cr_bd (show i ≤ l.length by omega)
  have hin : ∀ m, inSeg l i m = true ↔ segLo (seg l i) ≤ m ∧ m ≤ segHi (seg l i) ∧ m ≠ cr l (i + 1) := by
    intro m
    rw [inSeg_iff, e1, e2]
    split <;> omega
  have hge : ∀ n : Nat, segLo (seg l i) ≤ solM mag (seg l i) n := fun n => by
    have a := hs n; have b := hs 0; omega
  have hN : solN mag (seg l i) ≤ 5 - j := by
    rcases Nat.lt_or_ge (5 - j) (solN mag (seg l i)) with hlt | hge'
    · have a := n1 (5 - j) hlt
      rw [hs (5 - j), e2] at a
      have : j + (5 - j) = 5 := by omega
      rw [this] at a
      split at a <;> omega
    · exact hge'
  refine ⟨?_, fun n hn hx => (hin _).2 ⟨hge n, n1 n hn, hx⟩⟩
  unfold hitsM
  have e5 : 5 = j + (5 - j) := by omega
  rw [e5, run_add]
  rw [run_none j (fun t ht => by
    rcases hb : inSeg l i (mag - 7200 + 3600 * (t : Int)) with _ | _
    · rfl
    · have a := ((hin _).1 hb).1
      have b := hs 0
      omega)]
  rw [List.nil_append]
  have es : mag - 7200 + 3600 * (j : Int) = solM mag (seg l i) 0 := (hs 0).symm
  rw [es, run_tail (n := solN mag (seg l i)) (5 - j) hN (fun t ht1 ht2 => by
    rcases hb : inSeg l i (solM mag (seg l i) 0 + 3600 * (t : Int)) with _ | _
    · rfl
    · have a := ((hin _).1 hb).2.1
      have b := n2 t ht1
      have c := hs t
      have d := hs 0
      omega)]
  refine run_congr _ fun t ht => ?_
  have c := hs t
  have d := hs 0
  have et : solM mag (seg l i) 0 + 3600 * (t : Int) = solM mag (seg l i) t := by omega
  rw [et]
  by_cases hx : solM mag (seg l i) t = cr l (i + 1)
  · rw [decide_eq_false (fun hn => hn hx)]
    rcases hb : inSeg l i (solM mag (seg l i) t) with _ | _
    · rfl
    · exact absurd hx ((hin _).1 hb).2.2
  · rw [decide_eq_true hx, (hin _).2 ⟨hge t, n1 t ht, hx⟩]
theorem flatHit_iff {l : List S55} (h : Valid l) {i : Nat} (hi : i < l.length) {mag : Int} (h0 : 0 ≤ mag) (h1 : mag < 3600) : flatHit mag (seg l i) = true ↔ flatS l mag i := by
  obtain ⟨j, j1, j5, hs, s0, s1, e1, e2⟩ := solM_eq h hi h0 h1
  obtain ⟨n1, n2⟩ := solN_spec (mag := mag) (x := seg l i)
  have c1 := h.cr_bd (show i ≤ l.length by omega)
  unfold flatHit flatS
  rw [decide_eq_true_eq, e1, e2]
  rw [e1] at s0 s1
  constructor
  · rintro ⟨a, b⟩
    have c := n1 0 b
    rw [e2] at c
    have d := hs 0
    refine ⟨by split at a <;> omega, j, ?_, ?_⟩
    · split at a <;> split at c <;> split at s0 <;> omega
    · split at a <;> split at c <;> split at s0 <;> omega
  · rintro ⟨a, t, ht, hb⟩
    refine ⟨by split <;> omega, ?_⟩
    rcases Nat.eq_zero_or_pos (solN mag (seg l i)) with hz | hz
    · have c := n2 0 (by omega)
      have d := hs 0
      rw [e2] at c
      split at c <;> split at s0 <;> omega
    · exact hz
theorem solsTo_run {l : List S55} (h : Valid l) {i : Nat} (hi : i < l.length) {k : Nat} (hk : 132 ≤ k) {mag : Int} (hall : ∀ n, n < solN mag (seg l i) → (solM mag (seg l i) n ≠ cr l (i + 1) → inSeg l i (solM mag (seg l i) n) = true)) :
    ∀ n, n ≤ solN mag (seg l i) → solsTo k mag (seg l i) n = some ((runM (fun m => decide (m ≠ cr l (i + 1))) (solM mag (seg l i) 0) n).map (crs l i))
  | 0, _ => rfl
  | n + 1, hn => by
    have hs : solM mag (seg l i) n = solM mag (seg l i) 0 + 3600 * (n : Int) := by unfold solM; omega
    have he : (seg l i).2.f0 + (seg l i).2.f1 = cr l (i + 1) := by rw [seg_eq h hi]; rfl
    unfold solsTo
    rw [run_succ, solsTo_run h hi hk hall n (by omega), Option.bind_some, he, ← hs]
    by_cases hx : solM mag (seg l i) n = cr l (i + 1)
    · rw [if_pos hx, decide_eq_false (fun hn => hn hx)]
      simp
    · rw [if_neg hx, decide_eq_true hx, (courseAt_crs h hi hk (hall n (by omega) hx)).1]
      simp
theorem segSols_f {l : List S55} (h : Valid l) {i : Nat} (hi : i < l.length) {k : Nat} (hk : 132 ≤ k) {mag : Int} (h0 : 0 ≤ mag) (h1 : mag < 3600) (hf : ¬ flatS l mag i) :
    segSols k mag (seg l i) = some ((hitsM l mag i).map (crs l i)) := by
  unfold segSols
  by_cases hne : cr l i = cr l (i + 1)
  · -- even, and not met
    have hn : solN mag (seg l i) = 0 := by
      obtain ⟨j, j1, j5, hs, s0, s1, e1, e2⟩ := solM_eq h hi h0 h1
      have : flatHit mag (seg l i) = false := by
        rcases hb : flatHit mag (seg l i) with _ | _
        · rfl
        · exact absurd ((flatHit_iff h hi h0 h1).1 hb) hf
      unfold flatHit at this
      rw [decide_eq_false_iff_not, e1, e2] at this
      rcases Nat.eq_zero_or_pos (solN mag (seg l i)) with hz | hz
      · exact hz
      · exact absurd ⟨by split <;> omega, hz⟩ this
    have : hitsM l mag i = [] := run_none 5 (fun t ht => by
      rcases hb : inSeg l i (mag - 7200 + 3600 * (t : Int)) with _ | _
      · rfl
      · rw [inSeg_iff] at hb; omega)
    rw [hn, this]; rfl
  · obtain ⟨e, hall⟩ := run_hits h hi h0 h1 hne
    rw [solsTo_run h hi hk hall _ (Nat.le_refl _), e]
/-- All hits, segment by segment. -/
def allC (l : List S55) (mag : Int) (n : Nat) : List S101 := (List.range n).flatMap fun i => (hitsM l mag i).map (crs l i)
theorem allC_succ (l : List S55) (mag : Int) (n : Nat) : allC l mag (n + 1) = allC l mag n ++ (hitsM l mag n).map (crs l n) := by
  unfold allC
  rw [List.range_succ, List.flatMap_append]
  simp
theorem solsAll_f {l : List S55} (h : Valid l) {k : Nat} (hk : 132 ≤ k) {mag : Int} (h0 : 0 ≤ mag) (h1 : mag < 3600) (hf : ∀ i, i < l.length → ¬ flatS l mag i) : solsAll k mag (segs l) = allC l mag l.length := by
  unfold solsAll allC segs
  rw [List.flatMap_map, List.flatMap_def, List.flatMap_def]
  congr 1
  refine List.map_congr_left fun i hi => ?_
  rw [segSols_f h (List.mem_range.1 hi) hk h0 h1 (hf i (List.mem_range.1 hi))]
  rfl
theorem hits_mem {l : List S55} {mag m : Int} {i : Nat} : m ∈ hitsM l mag i ↔ (∃ t : Nat, t < 5 ∧ m = mag - 7200 + 3600 * (t : Int)) ∧ inSeg l i m = true := by
  unfold hitsM
  rw [run_mem]
  constructor
  · rintro ⟨t, a, b, c⟩; exact ⟨⟨t, a, b⟩, c⟩
  · rintro ⟨⟨t, a, b⟩, c⟩; exact ⟨t, a, b, c⟩
theorem allC_mem {l : List S55} {mag : Int} {n : Nat} {r : S101} : r ∈ allC l mag n ↔ ∃ i, i < n ∧ ∃ m, m ∈ hitsM l mag i ∧ r = crs l i m := by
  unfold allC
  rw [List.mem_flatMap]
  constructor
  · rintro ⟨i, hi, hr⟩
    obtain ⟨m, hm, rfl⟩ := List.mem_map.1 hr
    exact ⟨i, List.mem_range.1 hi, m, hm, rfl⟩
  · rintro ⟨i, hi, m, hm, rfl⟩
    exact ⟨i, List.mem_range.2 hi, List.mem_map.2 ⟨m, hm, rfl⟩⟩
theorem hits_len (l : List S55) (mag : Int) (i : Nat) : (hitsM l mag i).length ≤ 5 := by
  have : ∀ (P : Int → Bool) s n, (runM P s n).length ≤ n := by
    intro P s n
    induction n with
    | zero => simp [runM]
    | succ n ih => rw [run_succ, List.length_append]; split <;> simp <;> omega
  exact this _ _ 5
theorem allC_len (l : List S55) (mag : Int) (n : Nat) : (allC l mag n).length ≤ 5 * n := by
  induction n with
  | zero => simp [allC]
  | succ n ih =>
    have := hits_len l mag n
    rw [allC_succ, List.length_append, List.length_map]
    omega
/-- A fraction of a turn, reduced. -/
def FrR (r : S101) : Prop := 1 ≤ r.f1 ∧ r.f1 ≤ 5400 ∧ 0 ≤ r.f0 ∧ r.f0 < 3600 * r.f1 ∧ Int.gcd r.f0 r.f1 = 1
theorem allC_fr {l : List S55} (h : Valid l) {mag : Int} {r : S101} (hr : r ∈ allC l mag l.length) : FrR r := by
  obtain ⟨i, hi, m, hm, rfl⟩ := allC_mem.1 hr
  obtain ⟨_, _, a, b, c, d, e⟩ := courseAt_crs h hi (Nat.le_refl 132) (hits_mem.1 hm).2
  exact ⟨a, b, c, d, e⟩
theorem FrR.ok {r : S101} (h : FrR r) : okR r = true := by
  obtain ⟨a, b, c, d, e⟩ := h
  unfold okR
  rw [decide_eq_true_eq]
  exact ⟨a, by omega, by omega, by omega, e⟩
theorem courses_f {l : List S55} (h : Valid l) {k : Nat} (hk : 132 ≤ k) {mag : Int} (h0 : 0 ≤ mag) (h1 : mag < 3600) :
    (∃ i, i < l.length ∧ flatS l mag i) ∧ card_Card_courses.f k l mag = some ([], false) ∨ (∀ i, i < l.length → ¬ flatS l mag i) ∧ card_Card_courses.f k l mag = some ((allC l mag l.length).mergeSort (fun x y => !ltR y x), true) := by
  have hpt : l.all ptB = true := by
    rw [List.all_eq_true]
    intro p hp
    obtain ⟨i, hi, rfl⟩ := List.getElem_of_mem hp
    have a := h.hr i hi
    have b := h.dr i
    unfold hd at a; unfold dv at b
    rw [if_pos hi, getD_lt hi] at a b
    unfold ptB
    rw [decide_eq_true_eq]
    omega
  have hsome : (segs l).all (fun x => flatHit mag x || (segSols k mag x).isSome) = true := by
    rw [List.all_eq_true]
    intro x hx
    obtain ⟨i, hi, rfl⟩ := segs_mem hx
    by_cases hf : flatS l mag i
    · rw [(flatHit_iff h hi h0 h1).2 hf]; rfl
    · rw [segSols_f h hi hk h0 h1 hf]; simp
  have hp := h.pos
  have hle := h.le
  unfold card_Card_courses.f
  rw [if_pos ⟨h.pos, by omega, h0, h1, hpt, hsome⟩]
  by_cases hf : ∃ i, i < l.length ∧ flatS l mag i
  · refine .inl ⟨hf, ?_⟩
    obtain ⟨i, hi, hfi⟩ := hf
    rw [if_pos]
    rw [List.any_eq_true]
    exact ⟨seg l i, List.mem_map.2 ⟨i, List.mem_range.2 hi, rfl⟩, (flatHit_iff h hi h0 h1).2 hfi⟩
  · have hf' : ∀ i, i < l.length → ¬ flatS l mag i := fun i hi hx => hf ⟨i, hi, hx⟩
    refine .inr ⟨hf', ?_⟩
    rw [if_neg, solsAll_f h hk h0 h1 hf', if_pos]
    · rw [Bool.and_eq_true, List.all_eq_true, decide_eq_true_eq]
      have := allC_len l mag l.length
      exact ⟨fun r hr => (allC_fr h hr).ok, by omega⟩
    · rw [Bool.not_eq_true, List.any_eq_false]
      intro x hx
      obtain ⟨i, hi, rfl⟩ := segs_mem hx
      intro hc
      exact hf' i hi ((flatHit_iff h hi h0 h1).1 hc)
end Go.Proofs.Ytccjefoejjnccaa.M
/- What is proved here: the reference's compass courses are those of all hits, sorted; so program and reference tell the same. -/
namespace Go.Proofs.Ytccjefoejjnccaa.M
open Go.Proofs.Ytccjefoejjnccaa Go.RowKit Go.Proofs.Ytccjefoejjnccaa.C Go.Proofs.Ytccjefoejjnccaa.H Go.Proofs.YtccjefoejjnccaaW.PrintWords Go.Proofs.YtccjefoejjnccaaW.PrintLast Go.Proofs.YtccjefoejjnccaaW.PrintMore
set_option linter.unusedSimpArgs false
set_option linter.unusedVariables false
/-- A fraction in the statements' type. -/
def c29 (r : S101) : S29 := ⟨r.f0, r.f1⟩
/-- The order of fractions. -/
def leF (a b : S29) : Prop := a.f0 * b.f1 ≤ b.f0 * a.f1
def Fr29 (r : S29) : Prop := 1 ≤ r.f1 ∧ r.f1 ≤ 5400 ∧ 0 ≤ r.f0 ∧ r.f0 < 3600 * r.f1 ∧ Int.gcd r.f0 r.f1 = 1
theorem leF_trans {a b c : S29} (ha : Fr29 a) (hb : Fr29 b) (hc : Fr29 c) (h1 : leF a b) (h2 : leF b c) : leF a c := H.frac_trans_le ha.1 hb.1 hc.1 h1 h2
theorem leF_total (a b : S29) : leF a b ∨ leF b a := by unfold leF; omega
theorem leF_anti {a b : S29} (ha : Fr29 a) (hb : Fr29 b) (h1 : leF a b) (h2 : leF b a) : a = b := by
  obtain ⟨e1, e2⟩ := H.frac_eq ha.1 hb.1 ha.2.2.2.2 hb.2.2.2.2 (Int.le_antisymm h1 h2)
  cases a; cases b
  simp only at e1 e2
  rw [e1, e2]
theorem prod29 {a b : S29} (ha : Fr29 a) (hb : Fr29 b) : 0 ≤ a.f0 * b.f1 ∧ a.f0 * b.f1 ≤ 104976000000 := by
  have := prod_le ha.2.2.1 (show a.f0 ≤ 19440000 by have := ha.2.1; have := ha.2.2.2.1; omega) (show 0 ≤ b.f1 by have := hb.1; omega) hb.2.1
  omega
theorem less29 {a b : S29} (ha : Fr29 a) (hb : Fr29 b) : agonicref01_Less.f a.f0 a.f1 b.f0 b.f1 = some (decide (a.f0 * b.f1 < b.f0 * a.f1)) := by
  have h1 := prod29 ha hb
  have h2 := prod29 hb ha
  exact less_f (by omega) (by omega) (by omega) (by omega)
theorem rd29_at {a b : List S29} {x : S29} : rd_T29 (a ++ x :: b) (a.length : Int) = x := by
  unfold rd_T29
  rw [List.getD_eq_getElem?_getD, Int.toNat_natCast, List.getElem?_append_right (Nat.le_refl _), Nat.sub_self]
  rfl
/-- The insertion: the element behind the sorted part goes to its place; what follows goes on with a sorted list. -/
theorem ins_l {x0 : List S54} {x1 x8 x11 b0 b1 b2 b3 : Int} {z : S29} : ∀ (n : Nat) (a b : List S29) (k : Nat), a.length = n → n + b.length < 1000000 → n + 1 ≤ k →
    (∀ r ∈ a, Fr29 r) → Fr29 z → (∀ r ∈ b, Fr29 r) → a.Pairwise leF → b.Pairwise leF → (∀ p ∈ a, ∀ q ∈ b, leF p q) → (∀ q ∈ b, leF z q) →
    ∃ (ys : List S29) (k' : Nat), k ≤ k' + n + 1 ∧ k' < k ∧ agonicref05_Courses.l2 k x0 x1 (a ++ z :: b) x8 x11 (n : Int) b0 b1 b2 b3 = agonicref05_Courses.l1 k' x0 x1 ys x8 (wrap64 (x11 + 1)) b0 b1 b2 b3 ∧ ys.Perm (a ++ z :: b) ∧ ys.Pairwise leF
  | 0, a, b, k, ha, hl, hk, fa, fz, fb, sa, sb, hab, hzb => by
    obtain ⟨k, rfl⟩ : ∃ k', k = k' + 1 := ⟨k - 1, by omega⟩
    obtain rfl : a = [] := List.eq_nil_of_length_eq_zero ha
    refine ⟨[] ++ z :: b, k, by omega, by omega, ?_, List.Perm.refl _, ?_⟩
    · simp only [agonicref05_Courses.l2]
      rw [if_neg (by decide)]
    · rw [List.nil_append, List.pairwise_cons]
      exact ⟨hzb, sb⟩
  | n + 1, a, b, k, ha, hl, hk, fa, fz, fb, sa, sb, hab, hzb => by
    obtain ⟨k, rfl⟩ : ∃ k', k = k' + 1 := ⟨k - 1, by omega⟩
    obtain ⟨a', y, rfl⟩ : ∃ a' y, a = a' ++ [y] := by
      rcases List.eq_nil_or_concat a with rfl | ⟨a', y, e⟩
      · simp at ha
      · exact ⟨a', y, by rw [e, List.concat_eq_append]⟩
    have ha' : a'.length = n := by simpa using ha
    have fy : Fr29 y := fa y (by simp)
    have r1 : rd_T29 ((a' ++ [y]) ++ z :: b) ((n + 1 : Nat) : Int) = z := by
      have := rd29_at (a := a' ++ [y]) (b := b) (x := z)
      rwa [List.length_append, List.length_singleton, ha'] at this
    have r2 : rd_T29 ((a' ++ [y]) ++ z :: b) (n : Int) = y := by
      rw [List.append_assoc, ← ha']
      exact rd29_at
    have hlen : ((a' ++ [y]) ++ z :: b).length = n + 2 + b.length := by simp; omega
    have ew : wrap64 (((n + 1 : Nat) : Int) - 1) = (n : Int) := by rw [w64 (by omega) (by omega)]; omega
    have hstep : agonicref05_Courses.l2 (k + 1) x0 x1 ((a' ++ [y]) ++ z :: b) x8 x11 ((n + 1 : Nat) : Int) b0 b1 b2 b3 =
        if z.f0 * y.f1 < y.f0 * z.f1 then agonicref05_Courses.l2 k x0 x1 (a' ++ z :: (y :: b)) x8 x11 (n : Int) b0 b1 b2 b3 else agonicref05_Courses.l1 k x0 x1 ((a' ++ [y]) ++ z :: b) x8 (wrap64 (x11 + 1)) b0 b1 b2 b3 := by
      conv => lhs; simp only [agonicref05_Courses.l2]
      rw [if_pos (by omega), if_pos (by omega), if_pos (by omega), ew, if_pos (by omega), if_pos (by omega), r1, r2, less29 fz fy, Option.bind_some]
      have hset : (((a' ++ [y]) ++ z :: b).set (((n + 1 : Nat) : Int).toNat) (⟨y.f0, y.f1⟩ : S29)).set ((n : Int).toNat) (⟨z.f0, z.f1⟩ : S29) = a' ++ z :: (y :: b) := by
        rw [Int.toNat_natCast, Int.toNat_natCast, List.append_assoc, List.set_append_right _ _ (by omega), List.set_append_right _ _ (by omega), ha']
        have e1 : n + 1 - n = 1 := by omega
        rw [e1, Nat.sub_self]
        rfl
      rw [hset]
      by_cases hc : z.f0 * y.f1 < y.f0 * z.f1
      · rw [if_pos hc, if_pos (decide_eq_true hc)]
      · rw [if_neg hc, if_neg (by rw [decide_eq_false hc]; decide)]
    rw [hstep]
    rw [List.pairwise_append] at sa
    by_cases hc : z.f0 * y.f1 < y.f0 * z.f1
    · rw [if_pos hc]
      have hzy : leF z y := Int.le_of_lt hc
      obtain ⟨ys, k', k1, k2, e, hp, hs⟩ := ins_l (x0 := x0) (x1 := x1) (x8 := x8) (x11 := x11) (b0 := b0) (b1 := b1) (b2 := b2) (b3 := b3) n a' (y :: b) k ha' (by simp; omega) (by omega) (fun r hr => fa r (by simp [hr])) fz (fun r hr => by
        rcases List.mem_cons.1 hr with rfl | hr
        · exact fy
        · exact fb r hr) sa.1 (by rw [List.pairwise_cons]; exact ⟨fun q hq => hab y (by simp) q hq, sb⟩) (fun p hp q hq => by
        rcases List.mem_cons.1 hq with rfl | hq
        · exact sa.2.2 p hp q (by simp)
        · exact hab p (by simp [hp]) q hq) (fun q hq => by
        rcases List.mem_cons.1 hq with rfl | hq
        · exact hzy
        · exact hzb q hq)
      refine ⟨ys, k', by omega, by omega, e, hp.trans ?_, hs⟩
      rw [List.append_assoc]
      exact List.Perm.append_left a' (List.Perm.swap y z b)
    · rw [if_neg hc]
      have hyz : leF y z := by unfold leF; omega
      refine ⟨(a' ++ [y]) ++ z :: b, k, by omega, by omega, rfl, List.Perm.refl _, ?_⟩
      rw [List.pairwise_append, List.pairwise_cons]
      refine ⟨by rw [List.pairwise_append]; exact sa, ⟨hzb, sb⟩, fun p hp q hq => ?_⟩
      have hpz : leF p z := by
        rcases List.mem_append.1 hp with h1 | h1
        · exact leF_trans (fa p hp) fy fz (sa.2.2 p h1 y (by simp)) hyz
        · obtain rfl : p = y := by simpa using h1
          exact hyz
      rcases List.mem_cons.1 hq with rfl | hq
      · exact hpz
      · exact hab p hp q hq
theorem c29_fr {l : List S55} (h : Valid l) {i : Nat} (hi : i < l.length) {m : Int} (hm : inSeg l i m = true) : Fr29 (c29 (crs l i m)) := by
  obtain ⟨_, _, a, b, c, d, e⟩ := courseAt_crs h hi (Nat.le_refl 132) hm
  exact ⟨a, b, c, d, e⟩
/-- One segment of the reference, from turn j on (n of them are left): even and met, or all its hits are inserted. -/
def TurnRes (l : List S55) (mag : Int) (i n j : Nat) (acc : List S29) (k : Nat) (v : Option (List S29 × Int)) : Prop :=
  (cr l i = cr l (i + 1) ∧ (∃ t : Nat, j ≤ t ∧ t < 5 ∧ cr l i = mag - 7200 + 3600 * (t : Int)) ∧ v = some ([], 16)) ∨
  (¬ (cr l i = cr l (i + 1) ∧ ∃ t : Nat, j ≤ t ∧ t < 5 ∧ cr l i = mag - 7200 + 3600 * (t : Int)) ∧ ∃ (ys : List S29) (k' : Nat), k ≤ k' + 1 + n * (5 * i + 20) ∧ k' < k ∧
    v = agonicref05_Courses.l0 k' (l.map cv) mag ys (((i + 1 : Nat) : Int)) ∧ ys.Perm (acc ++ ((runM (inSeg l i) (mag - 7200 + 3600 * (j : Int)) n).map (fun m => c29 (crs l i m)))) ∧ ys.Pairwise leF)
theorem rturn_l {l : List S55} (h : Valid l) {i : Nat} (hi : i < l.length) {mag : Int} (h0 : 0 ≤ mag) (h1 : mag < 3600) :
    ∀ (n j : Nat) (acc : List S29) (k : Nat), j + n = 5 → acc.length ≤ 5 * i + j → 300 + n * (5 * i + 20) ≤ k → (∀ r ∈ acc, Fr29 r) → acc.Pairwise leF →
    TurnRes l mag i n j acc k (agonicref05_Courses.l1 k (l.map cv) mag acc (i : Int) ((j : Int) - 2) (hd l i) (dv l i) (hd l (i + 1)) (dv l (i + 1)))
  | 0, j, acc, k, hj, ha, hk, fa, sa => by
    obtain ⟨k, rfl⟩ : ∃ k', k = k' + 1 := ⟨k - 1, by omega⟩
    have hle := h.le
    refine .inr ⟨fun ⟨_, t, h1, h2, _⟩ => by omega, acc, k, by omega, by omega, ?_, by simp [runM], sa⟩
    conv => lhs; simp only [agonicref05_Courses.l1]
    rw [if_neg (by omega), w64 (by omega) (by omega)]
    rfl
  | n + 1, j, acc, k, hj, ha, hk, fa, sa => by
    obtain ⟨k, rfl⟩ : ∃ k', k = k' + 1 := ⟨k - 1, by omega⟩
    have hle := h.le
    obtain ⟨b1, b2, b3, b4, b5, b6⟩ := h.len hi
    have c1 := h.dr i
    have c2 := h.dr (i + 1)
    have c3 := h.cr_bd (show i ≤ l.length by omega)
    have c4 := h.cr_bd (show i + 1 ≤ l.length by omega)
    have hmul : (n + 1) * (5 * i + 20) = n * (5 * i + 20) + (5 * i + 20) := by rw [Nat.add_mul, Nat.one_mul]
    have ek : wrap64 (((j : Int) - 2) + 1) = ((j + 1 : Nat) : Int) - 2 := by rw [w64 (by omega) (by omega)]; omega
    have em : mag + ((j : Int) - 2) * 3600 = mag - 7200 + 3600 * (j : Int) := by omega
    have eu : wrap64 (wrap64 (wrap64 (mag + wrap64 (((j : Int) - 2) * 3600)) - hd l i) - dv l i) = mag - 7200 + 3600 * (j : Int) - cr l i := by
      rw [w64 (x := ((j : Int) - 2) * 3600) (by omega) (by omega), w64 (x := mag + ((j : Int) - 2) * 3600) (by omega) (by omega), w64 (x := mag + ((j : Int) - 2) * 3600 - hd l i) (by omega) (by omega), w64 (by omega) (by omega)]
      unfold cr; omega
    have hrun : runM (inSeg l i) (mag - 7200 + 3600 * (j : Int)) (n + 1) = (if inSeg l i (mag - 7200 + 3600 * (j : Int)) then [mag - 7200 + 3600 * (j : Int)] else []) ++ runM (inSeg l i) (mag - 7200 + 3600 * ((j + 1 : Nat) : Int)) n := by
      have e := run_add (P := inSeg l i) (s := mag - 7200 + 3600 * (j : Int)) 1 n
      rw [Nat.add_comm 1 n] at e
      rw [e]
      have e1 : mag - 7200 + 3600 * (j : Int) + 3600 * ((1 : Nat) : Int) = mag - 7200 + 3600 * ((j + 1 : Nat) : Int) := by omega
      rw [e1, run_succ]
      have e2 : mag - 7200 + 3600 * (j : Int) + 3600 * ((0 : Nat) : Int) = mag - 7200 + 3600 * (j : Int) := by omega
      rw [e2]
      rfl
    have hM0 : ∃ M, mag - 7200 + 3600 * (j : Int) = M := ⟨_, rfl⟩
    obtain ⟨M, hM⟩ := hM0
    rw [hM] at em eu hrun
    -- what the next turn gives, if nothing is met here
    have next : ∀ k2, k ≤ k2 + 1 → k2 ≤ k → (cr l i = cr l (i + 1) → cr l i ≠ M) → inSeg l i M = false →
        agonicref05_Courses.l1 (k + 1) (l.map cv) mag acc (i : Int) ((j : Int) - 2) (hd l i) (dv l i) (hd l (i + 1)) (dv l (i + 1)) = agonicref05_Courses.l1 k2 (l.map cv) mag acc (i : Int) (((j + 1 : Nat) : Int) - 2) (hd l i) (dv l i) (hd l (i + 1)) (dv l (i + 1)) → TurnRes l mag i (n + 1) j acc (k + 1) (agonicref05_Courses.l1 (k + 1) (l.map cv) mag acc (i : Int) ((j : Int) - 2) (hd l i) (dv l i) (hd l (i + 1)) (dv l (i + 1))) := by
      intro k2 hk2 hk2' hflat hin e
      rcases rturn_l h hi h0 h1 n (j + 1) acc k2 (by omega) (by omega) (by omega) fa sa with ⟨q1, ⟨t, q2, q3, q4⟩, q5⟩ | ⟨q1, ys, k', q2, q3, q4, q5, q6⟩
      · exact Or.inl ⟨q1, ⟨t, by omega, q3, q4⟩, e.trans q5⟩
      · refine Or.inr ⟨fun ⟨r1, t, r2, r3, r4⟩ => q1 ⟨r1, t, ?_, r3, r4⟩, ys, k', by omega, by omega, e.trans q4, ?_, q6⟩
        · rcases Nat.lt_or_ge j t with hlt | hge
          · omega
          · obtain rfl : t = j := by omega
            exact absurd (r4.trans hM) (hflat r1)
        · rw [hM, hrun, hin]
          simpa using q5
    by_cases hr : cr l (i + 1) - cr l i = 0
    · by_cases hu : M - cr l i = 0
      · refine .inl ⟨by omega, ⟨j, Nat.le_refl _, by omega, by omega⟩, ?_⟩
        conv => lhs; simp only [agonicref05_Courses.l1]
        rw [if_pos (by omega), rise_f h hi, Option.bind_some, if_pos hr, eu, if_pos hu]
      · refine next k (by omega) (by omega) (fun _ => by omega) ?_ ?_
        · rcases hb : inSeg l i M with _ | _
          · rfl
          · rw [inSeg_iff] at hb; omega
        · conv => lhs; simp only [agonicref05_Courses.l1]
          rw [if_pos (by omega), rise_f h hi, Option.bind_some, if_pos hr, eu, if_neg hu, ek]
    · have hL : wrap64 (hd l (i + 1) - hd l i) = hd l (i + 1) - hd l i := w64 (by omega) (by omega)
      have hb := abs_mul_le (a := M - cr l i) (A := 20000) (b := hd l (i + 1) - hd l i) (B := 3600) (by omega) (by omega) (by omega)
      have ew2 : wrap64 ((M - cr l i) * (hd l (i + 1) - hd l i)) = (M - cr l i) * (hd l (i + 1) - hd l i) := w64 (by omega) (by omega)
      obtain ⟨t1, t2, ht, hrr, _⟩ := plain_f (k := k) (by omega) (n := (M - cr l i) * (hd l (i + 1) - hd l i)) (d := cr l (i + 1) - cr l i) (by omega) (by omega) (by omega) (by omega) hr
      have ht2 := hrr.1
      have ht2d : t2 ≤ 9000 := by
        have v := isR_dvd hrr (Int.dvd_refl _)
        rw [← Int.natAbs_dvd_natAbs] at v
        have := Nat.le_of_dvd (by omega) v
        omega
      -- the test of the reference: t from 0 to below the length
      have htest : (0 ≤ t1 ∧ t1 < (hd l (i + 1) - hd l i) * t2) ↔ inSeg l i M = true := by
        constructor
        · rintro ⟨k1, k2⟩
          rw [inSeg_iff]
          obtain ⟨_, _, f⟩ := hrr
          generalize hd l (i + 1) - hd l i = L at *
          generalize hRR : cr l (i + 1) - cr l i = R at *
          generalize huu : M - cr l i = u at *
          rcases Int.lt_or_lt_of_ne hr with hneg | hpos
          · -- falling
            have f1 : 0 ≤ t1 * (-R) := Int.mul_nonneg k1 (by omega)
            have f2 : t1 * (-R) < L * t2 * (-R) := Int.mul_lt_mul_of_pos_right k2 (by omega)
            have f3 : t1 * (-R) = (-u) * L * t2 := by rw [Int.mul_neg, f]; grind
            have f4 : 0 ≤ -u := by
              by_cases hh : 0 ≤ -u
              · exact hh
              · have : (-u) * (L * t2) < 0 := Int.mul_neg_of_neg_of_pos (by omega) (Int.mul_pos (by omega) (by omega))
                have e : (-u) * L * t2 = (-u) * (L * t2) := by grind
                omega
            have f5 : -u < -R := by
              have e : (-u) * (L * t2) < (-R) * (L * t2) := by
                have e1 : (-u) * L * t2 = (-u) * (L * t2) := by grind
                have e2 : L * t2 * (-R) = (-R) * (L * t2) := by grind
                omega
              exact Int.lt_of_mul_lt_mul_right e (Int.le_of_lt (Int.mul_pos (by omega) (by omega)))
            omega
          · have f1 : 0 ≤ t1 * R := Int.mul_nonneg k1 (by omega)
            have f2 : t1 * R < L * t2 * R := Int.mul_lt_mul_of_pos_right k2 (by omega)
            have f4 : 0 ≤ u := by
              by_cases hh : 0 ≤ u
              · exact hh
              · have : u * (L * t2) < 0 := Int.mul_neg_of_neg_of_pos (by omega) (Int.mul_pos (by omega) (by omega))
                have e : u * L * t2 = u * (L * t2) := by grind
                omega
            have f5 : u < R := by
              have e : u * (L * t2) < R * (L * t2) := by
                have e1 : u * L * t2 = u * (L * t2) := by grind
                have e2 : L * t2 * R = R * (L * t2) := by grind
                omega
              exact Int.lt_of_mul_lt_mul_right e (Int.le_of_lt (Int.mul_pos (by omega) (by omega)))
            omega
        · intro hin
          obtain ⟨_, _, _, _, _, _, _, hx⟩ := hit_parts h hi hin
          obtain ⟨k1, k2, _⟩ := hx t1 t2 hrr
          exact ⟨k1, k2⟩
      have hLt := prod_le (show 0 ≤ hd l (i + 1) - hd l i by omega) b2 (show 0 ≤ t2 by omega) ht2d
      have ht1b : -100000000 ≤ t1 ∧ t1 ≤ 100000000 := by
        have v : t1.natAbs ≤ ((M - cr l i) * (hd l (i + 1) - hd l i)).natAbs := by
          obtain ⟨p, q, e1, e2, e3, _⟩ := plain_f (k := 130) (by omega) (n := (M - cr l i) * (hd l (i + 1) - hd l i)) (d := cr l (i + 1) - cr l i) (by omega) (by omega) (by omega) (by omega) hr
          obtain ⟨rfl, _⟩ := isR_unique hr hrr e2
          exact e3
        omega
      have hless : agonicref01_Less.f t1 t2 (hd l (i + 1) - hd l i) 1 = some (decide (t1 < (hd l (i + 1) - hd l i) * t2)) := by
        rw [less_f (by omega) (by omega) (by omega) (by omega), Int.mul_one]
      obtain ⟨k, rfl⟩ : ∃ k', k = k' + 1 := ⟨k - 1, by omega⟩
      by_cases hin : inSeg l i M = true
      · obtain ⟨g1, g2⟩ := htest.2 hin
        obtain ⟨hD0, d1, d2, u1, u2, n1, n2, hx⟩ := hit_parts h hi hin
        obtain ⟨_, _, _, hf, hp⟩ := hx t1 t2 hrr
        obtain ⟨p0, q, hs, hr2, _⟩ := ref_plus (k := k) (by omega) hf
        have hr2' : IsR p0 q (t1 * 1 + hd l i * t2) t2 := by
          have e1 : hd l i * t2 + t1 * 1 = t1 * 1 + hd l i * t2 := by omega
          rw [e1, Int.one_mul] at hr2
          exact hr2
        obtain ⟨z1, z2, z3, z4, z5, _⟩ := hp p0 q hr2'
        have hq := hr2.1
        have hc : CrsIs l i M (p0 % (3600 * q)) q := ⟨p0, z1, rfl⟩
        have hcrs := crs_eq h hi hin hc
        have fz := c29_fr h hi hin
        rw [hcrs] at fz
        have har : agonicref05_around.f k p0 q = some (p0 % (3600 * q), q) := by
          unfold agonicref05_around.f
          exact (raround_up 2 k p0 q hq (by omega) (by omega) (by omega) (by omega) (by omega) (by omega)).1
        obtain ⟨ys, k', q1, q2, q3, q4, q5⟩ := ins_l (x0 := l.map cv) (x1 := mag) (x8 := (i : Int)) (x11 := (j : Int) - 2) (b0 := hd l i) (b1 := dv l i) (b2 := hd l (i + 1)) (b3 := dv l (i + 1)) (z := ⟨p0 % (3600 * q), q⟩) acc.length acc [] k rfl (by simp; omega) (by omega) fa fz (by simp) sa (by simp) (by simp) (by simp)
        have hys : ∀ r ∈ ys, Fr29 r := fun r hr => by
          have := q4.mem_iff.1 hr
          rcases List.mem_append.1 this with h' | h'
          · exact fa r h'
          · obtain rfl : r = ⟨p0 % (3600 * q), q⟩ := by simpa using h'
            exact fz
        have hyl : ys.length = acc.length + 1 := by rw [q4.length_eq]; simp
        have estep : agonicref05_Courses.l1 (k + 1 + 1) (l.map cv) mag acc (i : Int) ((j : Int) - 2) (hd l i) (dv l i) (hd l (i + 1)) (dv l (i + 1)) = agonicref05_Courses.l1 k' (l.map cv) mag ys (i : Int) (((j + 1 : Nat) : Int) - 2) (hd l i) (dv l i) (hd l (i + 1)) (dv l (i + 1)) := by
          conv => lhs; simp only [agonicref05_Courses.l1]
          rw [if_pos (by omega), rise_f h hi, Option.bind_some, if_neg hr, eu, hL, ew2, ref_red, ht, Option.bind_some]
          dsimp only
          rw [if_neg (by omega), whole_f, Option.bind_some]
          dsimp only
          rw [hless, Option.bind_some, decide_eq_true g2]
          simp only [agonicref05_Courses.j4]
          rw [if_neg (by decide), whole_f, Option.bind_some]
          dsimp only
          rw [hs, Option.bind_some]
          dsimp only
          rw [har, Option.bind_some, if_pos (by omega), Option.bind_some]
          have el : wrap64 (((acc ++ [(⟨p0 % (3600 * q), q⟩ : S29)]).length : Int) - 1) = (acc.length : Int) := by
            rw [List.length_append, List.length_singleton, w64 (by omega) (by omega)]; omega
          rw [el, q3, ek]
        rcases rturn_l h hi h0 h1 n (j + 1) ys k' (by omega) (by omega) (by omega) hys q5 with ⟨w1, ⟨t, w2, w3, w4⟩, w5⟩ | ⟨w1, zs, k'', w2, w3, w4, w5, w6⟩
        · exact Or.inl ⟨w1, ⟨t, by omega, w3, w4⟩, estep.trans w5⟩
        · refine Or.inr ⟨fun ⟨r1, _⟩ => hr (by omega), zs, k'', by omega, by omega, estep.trans w4, ?_, w6⟩
          rw [hM, hrun, hin, if_pos rfl, List.map_append, ← List.append_assoc]
          refine w5.trans (List.Perm.append_right _ (q4.trans ?_))
          have : List.map (fun m => c29 (crs l i m)) [M] = [(⟨p0 % (3600 * q), q⟩ : S29)] := by
            simp only [List.map_cons, List.map_nil, hcrs]; rfl
          rw [this]
      · have hin' : inSeg l i M = false := by simpa using hin
        refine next k (by omega) (by omega) (fun hh => absurd hh (by omega)) hin' ?_
        conv => lhs; simp only [agonicref05_Courses.l1]
        rw [if_pos (by omega), rise_f h hi, Option.bind_some, if_neg hr, eu, hL, ew2, ref_red, ht, Option.bind_some]
        dsimp only
        have j4t : agonicref05_Courses.j4 (k + 1) (l.map cv) mag acc (i : Int) ((j : Int) - 2) true (hd l i) (dv l i) (hd l (i + 1)) (dv l (i + 1)) t1 t2 = agonicref05_Courses.l1 k (l.map cv) mag acc (i : Int) (((j + 1 : Nat) : Int) - 2) (hd l i) (dv l i) (hd l (i + 1)) (dv l (i + 1)) := by
          simp only [agonicref05_Courses.j4]
          rw [if_pos trivial, ek]
        by_cases hneg : t1 < 0
        · rw [if_pos hneg, j4t]
        · rw [if_neg hneg, whole_f, Option.bind_some]
          dsimp only
          rw [hless, Option.bind_some, decide_eq_false (fun hh => hin (htest.1 ⟨by omega, hh⟩))]
          exact j4t
end Go.Proofs.Ytccjefoejjnccaa.M
/- What is proved here: compass courses and allowances are told alike by the program and the reference. -/
namespace Go.Proofs.Ytccjefoejjnccaa.M
open Go.Proofs.Ytccjefoejjnccaa Go.RowKit Go.Proofs.Ytccjefoejjnccaa.C Go.Proofs.Ytccjefoejjnccaa.H Go.Proofs.YtccjefoejjnccaaW.PrintWords Go.Proofs.YtccjefoejjnccaaW.PrintLast Go.Proofs.YtccjefoejjnccaaW.PrintMore
set_option linter.unusedSimpArgs false
set_option linter.unusedVariables false
theorem allC29_fr {l : List S55} (h : Valid l) {mag : Int} {n : Nat} (hn : n ≤ l.length) {r : S29} (hr : r ∈ (allC l mag n).map c29) : Fr29 r := by
  obtain ⟨s, hs, rfl⟩ := List.mem_map.1 hr
  obtain ⟨i, hi, m, hm, rfl⟩ := allC_mem.1 hs
  exact c29_fr h (by omega) (hits_mem.1 hm).2
/-- All segments of the reference from i on. -/
theorem rseg_l {l : List S55} (h : Valid l) {mag : Int} (h0 : 0 ≤ mag) (h1 : mag < 3600) (B : Nat) (hB : 1010 ≤ B) :
    ∀ (n i : Nat) (acc : List S29) (k : Nat), i + n = l.length → 310 + n * B ≤ k → acc.Perm ((allC l mag i).map c29) → acc.Pairwise leF →
    ((∃ j, i ≤ j ∧ j < l.length ∧ flatS l mag j) ∧ agonicref05_Courses.l0 k (l.map cv) mag acc (i : Int) = some ([], 16)) ∨
    ((∀ j, i ≤ j → j < l.length → ¬ flatS l mag j) ∧ ∃ ys, agonicref05_Courses.l0 k (l.map cv) mag acc (i : Int) = some (ys, 0) ∧ ys.Perm ((allC l mag l.length).map c29) ∧ ys.Pairwise leF)
  | 0, i, acc, k, hi, hk, hp, hs => by
    obtain ⟨k, rfl⟩ : ∃ k', k = k' + 1 := ⟨k - 1, by omega⟩
    obtain rfl : i = l.length := by omega
    refine .inr ⟨fun j h1 h2 => by omega, acc, ?_, hp, hs⟩
    simp only [agonicref05_Courses.l0]
    rw [List.length_map, if_neg (by omega)]
  | n + 1, i, acc, k, hi, hk, hp, hs => by
    obtain ⟨k, rfl⟩ : ∃ k', k = k' + 1 := ⟨k - 1, by omega⟩
    have hle := h.le
    have hmulB : (n + 1) * B = n * B + B := by rw [Nat.add_mul, Nat.one_mul]
    have hi' : i < l.length := by omega
    have hal : acc.length ≤ 5 * i := by
      rw [hp.length_eq, List.length_map]
      exact allC_len l mag i
    have estep : agonicref05_Courses.l0 (k + 1) (l.map cv) mag acc (i : Int) = agonicref05_Courses.l1 k (l.map cv) mag acc (i : Int) (((0 : Nat) : Int) - 2) (hd l i) (dv l i) (hd l (i + 1)) (dv l (i + 1)) := by
      conv => lhs; simp only [agonicref05_Courses.l0]
      rw [List.length_map, if_pos (by omega), rseg_f h hi', Option.bind_some]
      rfl
    rcases rturn_l h hi' h0 h1 5 0 acc k (by omega) (by omega) (by omega) (fun r hr => allC29_fr h (n := i) (by omega) (hp.mem_iff.1 hr)) hs with ⟨q1, ⟨t, _, q3, q4⟩, q5⟩ | ⟨q1, ys, k', q2, q3, q4, q5, q6⟩
    · exact .inl ⟨⟨i, Nat.le_refl _, hi', q1, t, q3, q4⟩, estep.trans q5⟩
    · have hnf : ¬ flatS l mag i := fun ⟨r1, t, r2, r3⟩ => q1 ⟨r1, t, Nat.zero_le _, r2, r3⟩
      have hp' : ys.Perm ((allC l mag (i + 1)).map c29) := by
        refine q5.trans ?_
        rw [allC_succ, List.map_append, List.map_map]
        have e : mag - 7200 + 3600 * ((0 : Nat) : Int) = mag - 7200 := by omega
        rw [e]
        exact List.Perm.append_right _ hp
      rcases rseg_l h h0 h1 B hB n (i + 1) ys k' (by omega) (by omega) hp' q6 with ⟨⟨j, w1, w2, w3⟩, w4⟩ | ⟨w1, zs, w2, w3, w4⟩
      · exact .inl ⟨⟨j, by omega, w2, w3⟩, (estep.trans q4).trans w4⟩
      · refine .inr ⟨fun j j1 j2 => ?_, zs, (estep.trans q4).trans w2, w3, w4⟩
        rcases Nat.eq_or_lt_of_le j1 with rfl | j3
        · exact hnf
        · exact w1 j (by omega) j2
theorem sorted_prog {l : List S55} (h : Valid l) {mag : Int} : ((allC l mag l.length).mergeSort (fun x y => !ltR y x)).Pairwise (fun a b => leF (c29 a) (c29 b)) := by
  rw [← sort_attach ltR, List.pairwise_map]
  have hlt : ∀ (x y : { x // x ∈ allC l mag l.length }), (!ltR y.1 x.1) = true ↔ leF (c29 x.1) (c29 y.1) := by
    intro x y
    rw [ltR_eq (allC_fr h y.2).ok (allC_fr h x.2).ok]
    unfold leF c29
    simp
  have hfr : ∀ (x : { x // x ∈ allC l mag l.length }), Fr29 (c29 x.1) := fun x => allC29_fr h (Nat.le_refl _) (List.mem_map.2 ⟨x.1, x.2, rfl⟩)
  refine (List.pairwise_mergeSort (le := fun (x y : { x // x ∈ allC l mag l.length }) => !ltR y.1 x.1) (fun a b c h1 h2 => ?_) (fun a b => ?_) _).imp (fun {a b} hab => (hlt a b).1 hab)
  · exact (hlt a c).2 (leF_trans (hfr a) (hfr b) (hfr c) ((hlt a b).1 h1) ((hlt b c).1 h2))
  · rw [Bool.or_eq_true]
    rcases leF_total (c29 a.1) (c29 b.1) with h1 | h1
    · exact .inl ((hlt a b).2 h1)
    · exact .inr ((hlt b a).2 h1)
theorem cout_l : ∀ (n : Nat) (xs : List S101) (i : Nat) (k : Nat), i + n = xs.length → xs.length < 1000000 → n + 1 ≤ k → card_Courses.l0 k ((xs.take i).map c29) xs (xs.length : Int) (i : Int) = some (xs.map c29, 0)
  | 0, xs, i, k, hi, hl, hk => by
    obtain ⟨k, rfl⟩ : ∃ k', k = k' + 1 := ⟨k - 1, by omega⟩
    simp only [card_Courses.l0]
    rw [if_neg (by omega), List.take_of_length_le (by omega)]
  | n + 1, xs, i, k, hi, hl, hk => by
    obtain ⟨k, rfl⟩ : ∃ k', k = k' + 1 := ⟨k - 1, by omega⟩
    have hi' : i < xs.length := by omega
    have e : (xs.take i).map c29 ++ [c29 xs[i]] = (xs.take (i + 1)).map c29 := by
      rw [List.take_succ_eq_append_getElem hi', List.map_append]; rfl
    have r : rd_T101 xs (i : Int) = xs[i] := by
      unfold rd_T101
      rw [List.getD_eq_getElem?_getD, Int.toNat_natCast, List.getElem?_eq_getElem hi']; rfl
    have ih := cout_l n xs (i + 1) k (by omega) hl (by omega)
    rw [← e] at ih
    simp only [card_Courses.l0]
    rw [if_pos (by omega), if_pos (by omega), if_pos (by omega), r]
    show (if ((xs.take i).map c29).length < 8796093022208 then _ else _) = _
    rw [if_pos (by simp; omega), w64 (by omega) (by omega)]
    exact ih
/-- The compass courses of a heading, as both tell them. -/
theorem Courses_is {l : List S55} (h : Valid l) {k : Nat} (hk : 40000 ≤ k) {mag : Int} (h0 : 0 ≤ mag) (h1 : mag < 3600) :
    ((∃ i, i < l.length ∧ flatS l mag i) ∧ card_Card_courses.f k l mag = some ([], false) ∧ agonicref05_Courses.l0 k (l.map cv) mag [] 0 = some ([], 16)) ∨
    ((∀ i, i < l.length → ¬ flatS l mag i) ∧ ∃ xs : List S101, card_Card_courses.f k l mag = some (xs, true) ∧ agonicref05_Courses.l0 k (l.map cv) mag [] 0 = some (xs.map c29, 0) ∧ xs.Perm (allC l mag l.length) ∧ xs.Pairwise (fun a b => leF (c29 a) (c29 b))) := by
  have hle := h.le
  have hr := rseg_l h h0 h1 1010 (Nat.le_refl _) l.length 0 [] k (by omega) (by omega) (by simp [allC]) List.Pairwise.nil
  rcases courses_f h (k := k) (by omega) h0 h1 with ⟨hf, e⟩ | ⟨hf, e⟩
  · refine .inl ⟨hf, e, ?_⟩
    rcases hr with ⟨_, q⟩ | ⟨q, _⟩
    · exact q
    · obtain ⟨i, hi, hx⟩ := hf
      exact absurd hx (q i (Nat.zero_le _) hi)
  · refine .inr ⟨hf, _, e, ?_, List.mergeSort_perm _ _, sorted_prog h⟩
    rcases hr with ⟨⟨j, _, j2, j3⟩, _⟩ | ⟨_, ys, q1, q2, q3⟩
    · exact absurd j3 (hf j j2)
    · rw [← Int.natCast_zero, q1]
      congr 2
      have hp : ys.Perm (((allC l mag l.length).mergeSort (fun x y => !ltR y x)).map c29) := q2.trans ((List.mergeSort_perm _ _).map _).symm
      refine List.Perm.eq_of_pairwise (le := leF) (fun a b ha hb h1 h2 => ?_) q3 (by rw [List.pairwise_map]; exact sorted_prog h) hp
      have fa : Fr29 a := allC29_fr h (Nat.le_refl _) (q2.mem_iff.1 ha)
      have fb : Fr29 b := allC29_fr h (Nat.le_refl _) (q2.mem_iff.1 (hp.mem_iff.2 hb))
      exact leF_anti fa fb h1 h2
theorem Courses_head {l : List S55} {k : Nat} (hl : l.length ≤ 60) (hk : 1000 ≤ k) (mag : Int) : card_Courses.f k l mag =
    if chkAll l = 0 then (if 0 ≤ mag ∧ mag < 3600 then (card_Card_courses.f k l mag).bind fun b => (if b.2 = true then card_Courses.l0 k ([] : List S29) b.1 (b.1.length : Int) 0 else some ([], 16)) else some ([], 1)) else some ([], chkAll l) := by
  unfold card_Courses.f
  rw [Check_f (by omega) (by omega), Option.bind_some]
  by_cases h : chkAll l = 0
  · rw [if_pos h, if_pos h, heading_f, Option.bind_some]
    by_cases hc : 0 ≤ mag ∧ mag < 3600
    · rw [if_pos (decide_eq_true hc), if_pos hc]
    · rw [if_neg (by rw [decide_eq_false hc]; decide), if_neg hc]
  · rw [if_neg h, if_neg h]
end Go.Proofs.Ytccjefoejjnccaa.M
/- What is proved here: how many compass courses there are; allowances are told alike by the program and the reference. -/
namespace Go.Proofs.Ytccjefoejjnccaa.M
open Go.Proofs.Ytccjefoejjnccaa Go.RowKit Go.Proofs.Ytccjefoejjnccaa.C Go.Proofs.Ytccjefoejjnccaa.H Go.Proofs.YtccjefoejjnccaaW.PrintWords Go.Proofs.YtccjefoejjnccaaW.PrintLast Go.Proofs.YtccjefoejjnccaaW.PrintMore
set_option linter.unusedSimpArgs false
set_option linter.unusedVariables false
/-- How many of the numbers s, s + 3600, .. (n of them) are below c, or at most c. -/
def cl (s c : Int) : Nat → Int
  | 0 => 0
  | n + 1 => cl s c n + if s + 3600 * (n : Int) < c then 1 else 0
theorem run_up {a b s : Int} (h : a ≤ b) (P : Int → Bool) (hP : ∀ m, P m = true ↔ a ≤ m ∧ m < b) : ∀ n, ((runM P s n).length : Int) = cl s b n - cl s a n
  | 0 => by simp [runM, cl]
  | n + 1 => by
    have ih := run_up h P hP n (s := s)
    rw [run_succ, List.length_append]
    simp only [cl]
    by_cases hp : P (s + 3600 * (n : Int)) = true
    · have := (hP _).1 hp
      rw [if_pos hp, if_pos (by omega), if_neg (by omega)]
      simp; omega
    · have : ¬ (a ≤ s + 3600 * (n : Int) ∧ s + 3600 * (n : Int) < b) := fun hh => hp ((hP _).2 hh)
      rw [if_neg hp]
      split <;> split <;> simp <;> omega
theorem run_down {a b s : Int} (h : b ≤ a) (P : Int → Bool) (hP : ∀ m, P m = true ↔ b < m ∧ m ≤ a) : ∀ n, ((runM P s n).length : Int) = cl s (a + 1) n - cl s (b + 1) n
  | 0 => by simp [runM, cl]
  | n + 1 => by
    have ih := run_down h P hP n (s := s)
    rw [run_succ, List.length_append]
    simp only [cl]
    by_cases hp : P (s + 3600 * (n : Int)) = true
    · have := (hP _).1 hp
      rw [if_pos hp, if_pos (by omega), if_neg (by omega)]
      simp; omega
    · have : ¬ (b < s + 3600 * (n : Int) ∧ s + 3600 * (n : Int) ≤ a) := fun hh => hp ((hP _).2 hh)
      rw [if_neg hp]
      split <;> split <;> simp <;> omega
/-- How many hits of a magnetic heading lie below a course. -/
def low (mag c : Int) : Int := cl (mag - 7200) c 5
theorem low_eq {mag c : Int} (h0 : 0 ≤ mag) (h1 : mag < 3600) (h2 : -900 ≤ c) (h3 : c ≤ 8100) : low mag c = (c - mag + 10799) / 3600 := by
  unfold low
  simp only [cl]
  split <;> split <;> split <;> split <;> split <;> omega
theorem hits_up {l : List S55} {mag : Int} {i : Nat} (h : cr l i ≤ cr l (i + 1)) : ((hitsM l mag i).length : Int) = low mag (cr l (i + 1)) - low mag (cr l i) :=
  run_up h _ (fun m => by rw [inSeg_iff]; omega) 5
theorem hits_down {l : List S55} {mag : Int} {i : Nat} (h : cr l (i + 1) ≤ cr l i) : ((hitsM l mag i).length : Int) = low mag (cr l i + 1) - low mag (cr l (i + 1) + 1) :=
  run_down h _ (fun m => by rw [inSeg_iff]; omega) 5
theorem cr_last {l : List S55} (h : Valid l) : cr l l.length = cr l 0 + 3600 := by
  obtain ⟨a, b⟩ := h.last
  unfold cr
  omega
end Go.Proofs.Ytccjefoejjnccaa.M
/- What is proved here: cards by numbers are valid; the compass course of a hit leads back to the magnetic one; allowances lead from courses to headings. -/
namespace Go.Proofs.Ytccjefoejjnccaa.M
open Go.Proofs.Ytccjefoejjnccaa Go.RowKit Go.Proofs.Ytccjefoejjnccaa.C Go.Proofs.Ytccjefoejjnccaa.H Go.Proofs.YtccjefoejjnccaaW.PrintWords Go.Proofs.YtccjefoejjnccaaW.PrintLast Go.Proofs.YtccjefoejjnccaaW.PrintMore
set_option linter.unusedSimpArgs false
set_option linter.unusedVariables false
/-- Numbers as they come in. -/
def U16 (p : S81) : Prop := 0 ≤ p.f0 ∧ p.f0 < 65536 ∧ 0 ≤ p.f1 ∧ p.f1 < 65536
/-- The points made so far. -/
structure MadeAt (acc : List S55) (i : Nat) : Prop where
  len : acc.length = i
  ok : ∀ p ∈ acc, 0 ≤ p.f0 ∧ p.f0 < 720 * (i : Int) ∧ -785 ≤ p.f1 ∧ p.f1 ≤ 785
  inc : acc.Pairwise (fun a b => a.f0 < b.f0)
/-- A card by numbers. -/
structure Made (l : List S55) : Prop where
  pos : 0 < l.length
  le : l.length ≤ 5
  ok : ∀ p ∈ l, 0 ≤ p.f0 ∧ p.f0 < 3600 ∧ -785 ≤ p.f1 ∧ p.f1 ≤ 785
  inc : l.Pairwise (fun a b => a.f0 < b.f0)
theorem Made.chk {l : List S55} (h : Made l) : chkAll l = 0 := by
  have := h.pos
  have := h.le
  unfold chkAll
  rw [if_neg (by omega), if_neg (by omega), chk_iff]
  exact ⟨fun p hp => by have := h.ok p hp; exact ⟨⟨by omega, by omega, by omega, by omega⟩, by omega⟩, h.inc⟩
theorem rd81 {rs : List S81} {i : Nat} (h : i < rs.length) : rd_T81 rs (i : Int) = rs[i] := by
  unfold rd_T81
  rw [List.getD_eq_getElem?_getD, Int.toNat_natCast, List.getElem?_eq_getElem h]; rfl
theorem made_end {acc : List S55} {i : Nat} (hi : i ≤ 5) (h : MadeAt acc i) {a : Int} (h0 : 0 ≤ a) (h1 : a < 256) :
    ∃ L, (if (acc.length : Int) = 0 then (if acc.length < 8796093022208 then (some (acc ++ [(⟨7, wrap64 (a)⟩ : S55)])) else (none)) else (some acc)) = some L ∧ Made L := by
  have hl := h.len
  by_cases hz : (acc.length : Int) = 0
  · rw [if_pos hz, if_pos (by omega), w64 (by omega) (by omega)]
    obtain rfl : acc = [] := List.eq_nil_of_length_eq_zero (by omega)
    refine ⟨_, rfl, by simp, by simp, fun p hp => ?_, by simp⟩
    obtain rfl : p = ⟨7, a⟩ := by simpa using hp
    exact ⟨by show (0 : Int) ≤ 7; omega, by show (7 : Int) < 3600; omega, by show -785 ≤ a; omega, by show a ≤ 785; omega⟩
  · rw [if_neg hz]
    exact ⟨acc, rfl, by omega, by omega, fun p hp => by have := h.ok p hp; omega, h.inc⟩
theorem made_l {rs : List S81} (hr : ∀ p ∈ rs, U16 p) {a : Int} (h0 : 0 ≤ a) (h1 : a < 256) : ∀ (n i k : Nat) (acc : List S55), i + n = 5 → n + 1 ≤ k → MadeAt acc i → ∃ L, agoniclaw05_Rose_made.l0 k acc (20 + 3 * a) (i : Int) rs a = some L ∧ Made L
  | 0, i, k, acc, hi, hk, hm => by
    obtain ⟨k, rfl⟩ : ∃ k', k = k' + 1 := ⟨k - 1, by omega⟩
    obtain ⟨L, e, hL⟩ := made_end (by omega) hm h0 h1
    refine ⟨L, ?_, hL⟩
    simp only [agoniclaw05_Rose_made.l0]
    by_cases hc : (i : Int) < (rs.length : Int)
    · rw [if_pos hc, if_neg (by omega)]; exact e
    · rw [if_neg hc]; exact e
  | n + 1, i, k, acc, hi, hk, hm => by
    obtain ⟨k, rfl⟩ : ∃ k', k = k' + 1 := ⟨k - 1, by omega⟩
    simp only [agoniclaw05_Rose_made.l0]
    by_cases hc : (i : Int) < (rs.length : Int)
    · have hi' : i < rs.length := by omega
      obtain ⟨u0, u1, u2, u3⟩ := hr rs[i] (List.getElem_mem hi')
      have hlen := hm.len
      rw [if_pos hc, if_pos (by omega), if_pos (by omega), rd81 hi', w64 (x := rs[i].f0) (by omega) (by omega), w64 (x := rs[i].f1) (by omega) (by omega), Int.tmod_eq_emod_of_nonneg u0, Int.tmod_eq_emod_of_nonneg u2,
        w64 (x := 2 * (20 + 3 * a)) (by omega) (by omega), w64 (x := 2 * (20 + 3 * a) + 1) (by omega) (by omega), if_neg (by omega), if_pos (by omega), w64 (x := 720 * (i : Int)) (by omega) (by omega), w64 (x := 720 * (i : Int) + rs[i].f0 % 720) (by omega) (by omega)]
      have m0 := Int.emod_nonneg rs[i].f1 (b := 2 * (20 + 3 * a) + 1) (by omega)
      have m1 := Int.emod_lt_of_pos rs[i].f1 (b := 2 * (20 + 3 * a) + 1) (by omega)
      rw [w64 (x := rs[i].f1 % (2 * (20 + 3 * a) + 1) - (20 + 3 * a)) (by omega) (by omega), w64 (x := (i : Int) + 1) (by omega) (by omega)]
      refine made_l hr h0 h1 n (i + 1) k _ (by omega) (by omega) ⟨by simp [hlen], fun p hp => ?_, ?_⟩
      · rcases List.mem_append.1 hp with h' | h'
        · have := hm.ok p h'
          omega
        · obtain rfl := List.mem_singleton.1 h'
          refine ⟨by show 0 ≤ 720 * (i : Int) + rs[i].f0 % 720; omega, by show 720 * (i : Int) + rs[i].f0 % 720 < _; omega, ?_, ?_⟩
          · show -785 ≤ rs[i].f1 % (2 * (20 + 3 * a) + 1) - (20 + 3 * a); omega
          · show rs[i].f1 % (2 * (20 + 3 * a) + 1) - (20 + 3 * a) ≤ 785; omega
      · rw [List.pairwise_append]
        refine ⟨hm.inc, by simp, fun p hp q hq => ?_⟩
        obtain rfl := List.mem_singleton.1 hq
        have := hm.ok p hp
        show p.f0 < 720 * (i : Int) + rs[i].f0 % 720
        omega
    · obtain ⟨L, e, hL⟩ := made_end (by omega) hm h0 h1
      refine ⟨L, ?_, hL⟩
      rw [if_neg hc]; exact e
theorem made_f {rs : List S81} (hr : ∀ p ∈ rs, U16 p) {a : Int} (h0 : 0 ≤ a) (h1 : a < 256) {k : Nat} (hk : 6 ≤ k) : ∃ L, agoniclaw05_Rose_made.f k rs a = some L ∧ Made L := by
  unfold agoniclaw05_Rose_made.f
  rw [w64 (x := a) (by omega) (by omega), w64 (x := 3 * a) (by omega) (by omega), w64 (x := 20 + 3 * a) (by omega) (by omega)]
  exact made_l hr h0 h1 5 0 k [] (by omega) (by omega) ⟨rfl, by simp, by simp⟩
/-- The compass course of a hit, read forwards, is the magnetic one. -/
theorem hit_back {l : List S55} (h : Valid l) {i : Nat} (hi : i < l.length) {m p q : Int} (hm : inSeg l i m = true) (hc : CrsIs l i m p q) :
    ∃ p0, inTurn l p q = p0 ∧ (p0 = p ∨ p0 = p + 3600 * q) ∧ hd l i * q ≤ p0 ∧ p0 < hd l (i + 1) * q ∧ (p0 - hd l i * q) * (cr l (i + 1) - cr l i) = (m - cr l i) * (hd l (i + 1) - hd l i) * q ∧
      ∀ x y j, DevIs l p0 q x y j → j = i ∧ p0 * y + x * q = m * (q * y) := by
  obtain ⟨p0, hr, rfl⟩ := hc
  obtain ⟨hD0, d1, d2, u1, u2, n1, n2, hx⟩ := hit_parts h hi hm
  have hq := hr.1
  obtain ⟨b1, b2, b3, b4, b5, b6⟩ := h.len hi
  obtain ⟨t1, t2, ht, hrr, _⟩ := plain_f (k := 130) (by omega) (n := (m - cr l i) * (hd l (i + 1) - hd l i)) (d := crsD l i) (by omega) (by omega) (by omega) (by omega) hD0
  obtain ⟨_, _, hf, _, hp⟩ := hx t1 t2 hrr
  obtain ⟨p1, q1, _, hr2, _⟩ := plus1_f (k := 132) (Nat.le_refl _) hf
  rw [Int.mul_one, Int.mul_one] at hr2
  obtain ⟨g1, g2, g3, g4, g5, g6, g7⟩ := hp p1 q1 (by rw [Int.mul_one]; exact hr2)
  obtain ⟨rfl, rfl⟩ := isR_unique hD0 g1 hr
  have h0 := h.hr 0 h.pos
  have hl := h.last.1
  have e1 := Int.mul_le_mul_of_nonneg_right (h.mono' (show 0 ≤ i by omega) (by omega)) (show 0 ≤ q1 by omega)
  have e2 := Int.mul_le_mul_of_nonneg_right (h.mono' (show i + 1 ≤ l.length by omega) (Nat.le_refl _)) (show 0 ≤ q1 by omega)
  have e3 : hd l l.length * q1 = hd l 0 * q1 + 3600 * q1 := by rw [hl]; grind
  have e4 : hd l 0 * q1 ≤ 3600 * q1 := Int.mul_le_mul_of_nonneg_right (by omega) (by omega)
  have hturn : inTurn l (p1 % (3600 * q1)) q1 = p1 ∧ (p1 = p1 % (3600 * q1) ∨ p1 = p1 % (3600 * q1) + 3600 * q1) := by
    unfold inTurn
    by_cases hb : p1 < 3600 * q1
    · rw [Int.emod_eq_of_lt (by omega) hb, if_neg (by omega)]
      exact ⟨rfl, .inl rfl⟩
    · have e5 : p1 % (3600 * q1) = p1 - 3600 * q1 := by
        rw [← Int.sub_emod_right, Int.emod_eq_of_lt (by omega) (by omega)]
      rw [e5, if_pos (by omega)]
      exact ⟨by omega, .inr (by omega)⟩
  have hR : (p1 - hd l i * q1) * (cr l (i + 1) - cr l i) = (m - cr l i) * (hd l (i + 1) - hd l i) * q1 := by
    have f := g1.2.2
    unfold crsN crsD at f
    have e6 : (p1 - hd l i * q1) * (cr l (i + 1) - cr l i) = p1 * (cr l (i + 1) - cr l i) - hd l i * (cr l (i + 1) - cr l i) * q1 := by grind
    rw [e6, f]; grind
  refine ⟨p1, hturn.1, hturn.2, g6, g7, hR, fun x y j hj => ?_⟩
  have hij : j = i := by
    rcases Nat.lt_trichotomy i j with hh | hh | hh
    · exact absurd g7 (seg_first h hq hj.hi hj.lo i hh)
    · exact hh.symm
    · exact absurd hj.hi' (seg_first h hq hi g6 j hh)
  subst hij
  refine ⟨rfl, ?_⟩
  have f := hj.is.2.2
  unfold devN devD at f
  have hRL : cr l (j + 1) - cr l j = (hd l (j + 1) - hd l j) + (dv l (j + 1) - dv l j) := by unfold cr; omega
  have hcr : cr l j = hd l j + dv l j := rfl
  generalize hL : hd l (j + 1) - hd l j = L at *
  generalize dv l (j + 1) - dv l j = D at *
  rw [hRL] at hR
  refine Int.eq_of_mul_eq_mul_left (a := L) (by omega) ?_
  have z1 : L * (p1 * y + x * q1) = L * p1 * y + x * (L * q1) := by grind
  rw [z1, f]
  have z2 : L * p1 * y + (dv l j * (L * q1) + (p1 - hd l j * q1) * D) * y = (L * (hd l j * q1) + dv l j * (L * q1) + (p1 - hd l j * q1) * (L + D)) * y := by grind
  rw [z2, hR, hcr]; grind
theorem ends_f {l : List S55} (h : Valid l) {i : Nat} (hi : i < l.length) : agoniclaw05_ends.f l (i : Int) = some (hd l i, dv l i, hd l (i + 1), dv l (i + 1)) := by
  have hle := h.le
  have h0 := h.hr 0 h.pos
  unfold agoniclaw05_ends.f
  have ew : wrap64 ((i : Int) + 1) = ((i + 1 : Nat) : Int) := by rw [w64 (by omega) (by omega)]; omega
  have et : Int.tmod ((i + 1 : Nat) : Int) (l.length : Int) = (((i + 1) % l.length : Nat) : Int) := (Int.ofNat_tmod _ _).symm
  have hmod : (i + 1) % l.length < l.length := Nat.mod_lt _ (by omega)
  have ea : (rd_T55 l (i : Int)).f0 = hd l i := by unfold hd; rw [if_pos hi]; rfl
  have eb : (rd_T55 l (i : Int)).f1 = dv l i := by unfold dv; rw [if_pos hi]; rfl
  rw [if_pos (by omega), if_pos (by omega), if_neg (by omega), ew, et, if_pos (by omega), if_pos (by omega), ea, eb]
  by_cases hlast : i + 1 = l.length
  · have hm0 : (i + 1) % l.length = 0 := by rw [hlast, Nat.mod_self]
    have e0 : (rd_T55 l ((0 : Nat) : Int)).f0 = hd l 0 := by unfold hd; rw [if_pos h.pos]; rfl
    have e2 : (rd_T55 l ((0 : Nat) : Int)).f1 = dv l 0 := by unfold dv; rw [if_pos h.pos]; rfl
    rw [if_pos (by omega), hm0, e0, e2, w64 (by omega) (by omega), hlast, h.last.1, h.last.2]
  · have hm0 : (i + 1) % l.length = i + 1 := Nat.mod_eq_of_lt (by omega)
    have e0 : (rd_T55 l ((i + 1 : Nat) : Int)).f0 = hd l (i + 1) := by unfold hd; rw [if_pos (show i + 1 < l.length by omega)]; rfl
    have e2 : (rd_T55 l ((i + 1 : Nat) : Int)).f1 = dv l (i + 1) := by unfold dv; rw [if_pos (show i + 1 < l.length by omega)]; rfl
    rw [if_neg (by omega), hm0, e0, e2]
theorem fit_f {r : S29} (h : Fr29 r) : agoniclaw05_fit.f r.f0 r.f1 3600 = some true := by
  obtain ⟨a, b, c, d, e⟩ := h
  unfold agoniclaw05_fit.f
  rw [if_pos a, if_pos (by omega), if_pos c, w64 (by omega) (by omega), decide_eq_true d]
end Go.Proofs.Ytccjefoejjnccaa.M
/- What is proved here: one more course lies in rising segments than in falling ones. -/
namespace Go.Proofs.Ytccjefoejjnccaa.M
open Go.Proofs.Ytccjefoejjnccaa Go.RowKit Go.Proofs.Ytccjefoejjnccaa.C Go.Proofs.Ytccjefoejjnccaa.H Go.Proofs.YtccjefoejjnccaaW.PrintWords Go.Proofs.YtccjefoejjnccaaW.PrintLast Go.Proofs.YtccjefoejjnccaaW.PrintMore
set_option linter.unusedSimpArgs false
set_option linter.unusedVariables false
/-- The course of a fraction is told in its segment. -/
theorem course_l {l : List S55} (h : Valid l) {p0 q : Int} (hq : 1 ≤ q) (hq2 : q ≤ 6000) {i : Nat} (hi : i < l.length) (hlo : hd l i * q ≤ p0) (hup : p0 < hd l (i + 1) * q) :
    ∀ (n j k : Nat), j + n = i → n + 1 ≤ k → agoniclaw05_course.l0 k l (l.length : Int) (j : Int) p0 q = some (p0 * (hd l (i + 1) - hd l i) + dv l i * (hd l (i + 1) - hd l i) * q + (dv l (i + 1) - dv l i) * (p0 - hd l i * q), (hd l (i + 1) - hd l i) * q, (i : Int))
  | 0, j, k, hj, hk => by
    obtain ⟨k, rfl⟩ : ∃ k', k = k' + 1 := ⟨k - 1, by omega⟩
    obtain rfl : j = i := by omega
    have hle := h.le
    obtain ⟨b1, b2, b3, b4, b5, b6⟩ := h.len hi
    have c1 := h.dr j
    have c2 := h.dr (j + 1)
    have k1 := prod_le b6 (show hd l (j + 1) ≤ 7200 by omega) (show 0 ≤ q by omega) hq2
    have k2 := prod_le b5 (show hd l j ≤ 3600 by omega) (show 0 ≤ q by omega) hq2
    have k3 := prod_le (show 0 ≤ p0 by omega) (show p0 ≤ 43200000 by omega) (show 0 ≤ hd l (j + 1) - hd l j by omega) b2
    have k4 := mul_bd c1.1 c1.2 (show 0 ≤ hd l (j + 1) - hd l j by omega) b2
    have k5 := mul_bd k4.1 k4.2 (show 0 ≤ q by omega) hq2
    have k6 := mul_bd (A := 1800) (a := dv l (j + 1) - dv l j) (b := p0 - hd l j * q) (B := 43200000) (by omega) (by omega) (by omega) (by omega)
    have k7 := prod_le (show 0 ≤ hd l (j + 1) - hd l j by omega) b2 (show 0 ≤ q by omega) hq2
    simp only [agoniclaw05_course.l0]
    rw [if_pos (by omega), ends_f h hi, Option.bind_some]
    dsimp only
    rw [w64 (x := hd l (j + 1) * q) (by omega) (by omega), if_neg (by omega), w64 (x := hd l (j + 1) - hd l j) (by omega) (by omega), w64 (x := p0 * (hd l (j + 1) - hd l j)) (by omega) (by omega), w64 (x := dv l j * (hd l (j + 1) - hd l j)) (by omega) (by omega),
      w64 (x := dv l j * (hd l (j + 1) - hd l j) * q) (by omega) (by omega), w64 (x := p0 * (hd l (j + 1) - hd l j) + dv l j * (hd l (j + 1) - hd l j) * q) (by omega) (by omega), w64 (x := dv l (j + 1) - dv l j) (by omega) (by omega), w64 (x := hd l j * q) (by omega) (by omega),
      w64 (x := p0 - hd l j * q) (by omega) (by omega), w64 (x := (dv l (j + 1) - dv l j) * (p0 - hd l j * q)) (by omega) (by omega), w64 (x := p0 * (hd l (j + 1) - hd l j) + dv l j * (hd l (j + 1) - hd l j) * q + (dv l (j + 1) - dv l j) * (p0 - hd l j * q)) (by omega) (by omega), w64 (x := (hd l (j + 1) - hd l j) * q) (by omega) (by omega)]
    rfl
  | n + 1, j, k, hj, hk => by
    obtain ⟨k, rfl⟩ : ∃ k', k = k' + 1 := ⟨k - 1, by omega⟩
    have hle := h.le
    obtain ⟨b1, b2, b3, b4, b5, b6⟩ := h.len (show j < l.length by omega)
    have k1 := prod_le b6 (show hd l (j + 1) ≤ 7200 by omega) (show 0 ≤ q by omega) hq2
    have k2 := Int.mul_le_mul_of_nonneg_right (h.mono' (show j + 1 ≤ i by omega) (by omega)) (show 0 ≤ q by omega)
    simp only [agoniclaw05_course.l0]
    rw [if_pos (by omega), ends_f h (by omega), Option.bind_some]
    dsimp only
    rw [w64 (x := hd l (j + 1) * q) (by omega) (by omega), if_pos (by omega), w64 (x := (j : Int) + 1) (by omega) (by omega)]
    exact course_l h hq hq2 hi hlo hup n (j + 1) k (by omega) (by omega)
theorem course_ff {l : List S55} (h : Valid l) {k : Nat} (hk : 100 ≤ k) {p q p0 : Int} (hq : 1 ≤ q) (hq2 : q ≤ 6000) (hp0 : 0 ≤ p) (hp1 : p < 3600 * q) (hturn : inTurn l p q = p0) {i : Nat} (hi : i < l.length) (hlo : hd l i * q ≤ p0) (hup : p0 < hd l (i + 1) * q) :
    agoniclaw05_course.f k l p q = some (p0 * (hd l (i + 1) - hd l i) + dv l i * (hd l (i + 1) - hd l i) * q + (dv l (i + 1) - dv l i) * (p0 - hd l i * q), (hd l (i + 1) - hd l i) * q, (i : Int)) := by
  obtain ⟨k, rfl⟩ : ∃ k', k = k' + 1 := ⟨k - 1, by omega⟩
  have hle := h.le
  have h0 := h.hr 0 h.pos
  have hpos := h.pos
  have k2 := prod_le h0.1 (show hd l 0 ≤ 3600 by omega) (show 0 ≤ q by omega) hq2
  have e0 : (rd_T55 l 0).f0 = hd l 0 := by unfold hd; rw [if_pos h.pos]; rfl
  have hl := course_l h hq hq2 hi hlo hup i 0 k (by omega) (by omega)
  unfold agoniclaw05_course.f
  rw [if_pos (by omega), e0, w64 (x := hd l 0 * q) (by omega) (by omega), w64 (x := 3600 * q) (by omega) (by omega), w64 (x := p + 3600 * q) (by omega) (by omega)]
  simp only [agoniclaw05_course.j0]
  unfold inTurn at hturn
  by_cases hc : p < hd l 0 * q
  · rw [if_pos hc] at hturn ⊢
    rw [hturn]; exact hl
  · rw [if_neg hc] at hturn ⊢
    rw [hturn]; exact hl
/-- The course of a hit, and its segment. -/
theorem course_hit {l : List S55} (h : Valid l) {k : Nat} (hk : 100 ≤ k) {i : Nat} (hi : i < l.length) {m : Int} (hm : inSeg l i m = true) :
    ∃ u v, agoniclaw05_course.f k l (crs l i m).f0 (crs l i m).f1 = some (u, v, (i : Int)) ∧ u = m * v ∧ 1 ≤ v ∧ v ≤ 19440000 := by
  obtain ⟨_, hci, c1, c2, c3, c4, _⟩ := courseAt_crs h hi (Nat.le_refl 132) hm
  obtain ⟨p0, hturn, hp0, hlo, hup, hR, _⟩ := hit_back h hi hm hci
  obtain ⟨b1, b2, b3, b4, b5, b6⟩ := h.len hi
  have k7 := prod_le (show 0 ≤ hd l (i + 1) - hd l i by omega) b2 (show 0 ≤ (crs l i m).f1 by omega) c2
  have k8 : 0 < (hd l (i + 1) - hd l i) * (crs l i m).f1 := Int.mul_pos (by omega) (by omega)
  refine ⟨_, _, course_ff h hk c1 (by omega) c3 c4 hturn hi hlo hup, ?_, by omega, by omega⟩
  have hRL : cr l (i + 1) - cr l i = (hd l (i + 1) - hd l i) + (dv l (i + 1) - dv l i) := by unfold cr; omega
  have hcr : cr l i = hd l i + dv l i := rfl
  generalize (crs l i m).f1 = q at *
  generalize hd l (i + 1) - hd l i = L at *
  generalize dv l (i + 1) - dv l i = D at *
  rw [hRL] at hR
  have z : p0 * L + dv l i * L * q + D * (p0 - hd l i * q) = (p0 - hd l i * q) * (L + D) + (hd l i + dv l i) * L * q := by grind
  rw [z, hR, hcr]; grind
def sumZ : List Int → Int
  | [] => 0
  | x :: xs => x + sumZ xs
theorem sumZ_append : ∀ a b : List Int, sumZ (a ++ b) = sumZ a + sumZ b
  | [], b => by simp [sumZ]
  | x :: xs, b => by simp only [List.cons_append, sumZ, sumZ_append xs b]; omega
theorem sumZ_perm {a b : List Int} (h : a.Perm b) : sumZ a = sumZ b := by
  induction h with
  | nil => rfl
  | cons x _ ih => simp only [sumZ, ih]
  | swap x y l => simp only [sumZ]; omega
  | trans _ _ i1 i2 => rw [i1, i2]
theorem sumZ_const {α : Type} (f : α → Int) (c : Int) : ∀ l : List α, (∀ x ∈ l, f x = c) → sumZ (l.map f) = c * (l.length : Int)
  | [], _ => by simp [sumZ]
  | x :: xs, h => by
    simp only [List.map_cons, sumZ, sumZ_const f c xs (fun y hy => h y (by simp [hy])), h x (by simp), List.length_cons]
    have : ((xs.length + 1 : Nat) : Int) = (xs.length : Int) + 1 := by omega
    rw [this]; grind
/-- 1 where the course of a fraction lies in a rising segment, else -1. -/
def sgF (l : List S55) (x : S101) : Int := match agoniclaw05_course.f 100 l x.f0 x.f1 with
  | some (_, _, i) => if cr l i.toNat < cr l (i.toNat + 1) then 1 else -1
  | none => 0
theorem sgF_hit {l : List S55} (h : Valid l) {i : Nat} (hi : i < l.length) {m : Int} (hm : inSeg l i m = true) : sgF l (crs l i m) = if cr l i < cr l (i + 1) then 1 else -1 := by
  obtain ⟨u, v, e, _⟩ := course_hit h (Nat.le_refl 100) hi hm
  unfold sgF
  rw [e]
  dsimp only
  rw [Int.toNat_natCast]
/-- No point has the magnetic course. -/
def NoPoint (l : List S55) (mag : Int) : Prop := ∀ i, i ≤ l.length → (cr l i - mag) % 3600 ≠ 0
theorem turns_sum {l : List S55} (h : Valid l) {mag : Int} (h0 : 0 ≤ mag) (h1 : mag < 3600) (hp : NoPoint l mag) : ∀ n, n ≤ l.length → sumZ ((allC l mag n).map (sgF l)) = low mag (cr l n) - low mag (cr l 0)
  | 0, _ => by simp [allC, sumZ]
  | n + 1, hn => by
    have ih := turns_sum h h0 h1 hp n (by omega)
    have c1 := h.cr_bd (show n ≤ l.length by omega)
    have c2 := h.cr_bd (show n + 1 ≤ l.length by omega)
    have p1 := hp n (by omega)
    have p2 := hp (n + 1) hn
    rw [allC_succ, List.map_append, sumZ_append, ih, List.map_map]
    have hs : sumZ ((hitsM l mag n).map (sgF l ∘ crs l n)) = (if cr l n < cr l (n + 1) then 1 else -1) * ((hitsM l mag n).length : Int) :=
      sumZ_const _ _ _ (fun m hm => sgF_hit h (by omega) (hits_mem.1 hm).2)
    rw [hs]
    by_cases hc : cr l n < cr l (n + 1)
    · rw [if_pos hc, hits_up (by omega)]; omega
    · have l1 := low_eq h0 h1 (show -900 ≤ cr l n by omega) (by omega)
      have l2 := low_eq h0 h1 (show -900 ≤ cr l (n + 1) by omega) (by omega)
      have l3 := low_eq h0 h1 (show -900 ≤ cr l n + 1 by omega) (by omega)
      have l4 := low_eq h0 h1 (show -900 ≤ cr l (n + 1) + 1 by omega) (by omega)
      rw [if_neg hc, hits_down (by omega), l1, l2, l3, l4]
      omega
theorem turns_one {l : List S55} (h : Valid l) {mag : Int} (h0 : 0 ≤ mag) (h1 : mag < 3600) (hp : NoPoint l mag) : sumZ ((allC l mag l.length).map (sgF l)) = 1 := by
  have c0 := h.cr_bd (Nat.zero_le _)
  have cn := h.cr_bd (Nat.le_refl _)
  have el := cr_last h
  rw [turns_sum h h0 h1 hp _ (Nat.le_refl _), low_eq h0 h1 (by omega) (by omega), low_eq h0 h1 (by omega) (by omega), el]
  omega
theorem wrap_suc {i : Nat} (h : i < 1000) : wrap64 ((i : Int) + 1) = ((i + 1 : Nat) : Int) := by rw [w64 (by omega) (by omega)]; omega
theorem turns_l {l : List S55} (h : Valid l) {mag : Int} {xs : List S101} (hl : xs.length < 1000) (hx : ∀ x ∈ xs, x ∈ allC l mag l.length) (U B : Nat) (hU : U ≤ 1000000) (hB : 101 ≤ B) : ∀ (n i k : Nat) (up : Int), i + n = xs.length → B + n ≤ k → -(U : Int) + (n : Int) ≤ up → up ≤ (U : Int) - (n : Int) →
    agoniclaw05_CardTurns.l1 k l up (xs.map c29) (xs.length : Int) (i : Int) = some (decide (up + sumZ ((xs.drop i).map (sgF l)) = 1))
  | 0, i, k, up, hi, hk, u0, u1 => by
    obtain ⟨k, rfl⟩ : ∃ k', k = k' + 1 := ⟨k - 1, by omega⟩
    simp only [agoniclaw05_CardTurns.l1]
    rw [if_neg (by omega), List.drop_of_length_le (by omega)]
    by_cases he : up = 1
    · rw [if_pos he, decide_eq_true (by simp [sumZ, he])]; rfl
    · rw [if_neg he, decide_eq_false (by simp [sumZ, he])]
  | n + 1, i, k, up, hi, hk, u0, u1 => by
    obtain ⟨k, rfl⟩ : ∃ k', k = k' + 1 := ⟨k - 1, by omega⟩
    have hi' : i < xs.length := by omega
    obtain ⟨j, hj, m, hm, hxe⟩ := allC_mem.1 (hx xs[i] (List.getElem_mem hi'))
    have hin := (hits_mem.1 hm).2
    have hfr := c29_fr h hj hin
    rw [← hxe] at hfr
    obtain ⟨u, v, e, _⟩ := course_hit h (k := k) (by omega) hj hin
    have hsg := sgF_hit h hj hin
    rw [← hxe] at e hsg
    have c1 := h.cr_bd (show j ≤ l.length by omega)
    have c2 := h.cr_bd (show j + 1 ≤ l.length by omega)
    have r1 : hd l j + dv l j = cr l j := rfl
    have r2 : hd l (j + 1) + dv l (j + 1) = cr l (j + 1) := rfl
    have er : rd_T29 (xs.map c29) (i : Int) = c29 xs[i] := by
      unfold rd_T29
      rw [List.getD_eq_getElem?_getD, Int.toNat_natCast, List.getElem?_map, List.getElem?_eq_getElem hi']; rfl
    conv => lhs; simp only [agoniclaw05_CardTurns.l1]
    rw [if_pos (by omega), if_pos (by omega), if_pos (by rw [List.length_map]; omega), er, fit_f hfr, Option.bind_some, if_pos rfl]
    show ((agoniclaw05_course.f k l xs[i].f0 xs[i].f1).bind _) = _
    rw [e, Option.bind_some]
    dsimp only
    rw [if_neg (by omega), ends_f h hj, Option.bind_some]
    dsimp only
    rw [r1, r2, w64 (x := cr l j) (by omega) (by omega), w64 (x := cr l (j + 1)) (by omega) (by omega), wrap_suc (show i < 1000 by omega), List.drop_eq_getElem_cons hi', List.map_cons]
    simp only [sumZ]
    by_cases hc : cr l j < cr l (j + 1)
    · rw [if_pos hc] at hsg
      rw [if_pos (by omega), w64 (x := up + 1) (by omega) (by omega), hsg]
      rw [turns_l h hl hx U B hU hB n (i + 1) k (up + 1) (by omega) (by omega) (by omega) (by omega)]
      exact congrArg some (decide_eq_decide.2 (by omega))
    · rw [if_neg hc] at hsg
      rw [if_neg (by omega), w64 (x := up - 1) (by omega) (by omega), hsg]
      rw [turns_l h hl hx U B hU hB n (i + 1) k (up - 1) (by omega) (by omega) (by omega) (by omega)]
      exact congrArg some (decide_eq_decide.2 (by omega))
theorem tmod_ne {x : Int} (h : ¬ Int.tmod x 3600 = 0) : x % 3600 ≠ 0 := fun e => h (Int.tmod_eq_zero_of_dvd (Int.dvd_of_emod_eq_zero e))
/-- The look at all points: one has the course, or none has. -/
theorem points_l {l : List S55} (h : Valid l) {mag : Int} (h0 : 0 ≤ mag) (h1 : mag < 3600) : ∀ (n i k : Nat), i + n = l.length → n + 1 ≤ k → (∀ j, j < i → (cr l j - mag) % 3600 ≠ 0) →
    agoniclaw05_CardTurns.l0 k l mag l (l.length : Int) (i : Int) = some true ∨ (NoPoint l mag ∧ agoniclaw05_CardTurns.l0 k l mag l (l.length : Int) (i : Int) = (card_Courses.f (k - n - 1) l mag).bind fun b => (if b.2 = 0 then (agoniclaw05_CardTurns.l1 (k - n - 1) l 0 b.1 (b.1.length : Int) 0) else (some false)))
  | 0, i, k, hi, hk, hj => by
    obtain ⟨k, rfl⟩ : ∃ k', k = k' + 1 := ⟨k - 1, by omega⟩
    refine .inr ⟨fun j hj2 => ?_, ?_⟩
    · rcases Nat.lt_or_eq_of_le hj2 with h2 | rfl
      · exact hj j (by omega)
      · have e := cr_last h
        have a := hj 0 (by have := h.pos; omega)
        rw [e]
        omega
    · simp only [agoniclaw05_CardTurns.l0]
      rw [if_neg (by omega)]
      rfl
  | n + 1, i, k, hi, hk, hj => by
    obtain ⟨k, rfl⟩ : ∃ k', k = k' + 1 := ⟨k - 1, by omega⟩
    have hle := h.le
    have hi' : i < l.length := by omega
    have c1 := h.cr_bd (show i ≤ l.length by omega)
    have e1 : (rd_T55 l (i : Int)).f0 + (rd_T55 l (i : Int)).f1 = cr l i := by
      unfold cr hd dv; rw [if_pos hi', if_pos hi']; rfl
    have ek : k + 1 - (n + 1) - 1 = k - n - 1 := by omega
    rw [ek]
    simp only [agoniclaw05_CardTurns.l0]
    rw [if_pos (by omega), if_pos (by omega), if_pos (by omega), e1, w64 (x := cr l i) (by omega) (by omega), w64 (x := cr l i - mag) (by omega) (by omega), wrap_suc (show i < 1000 by omega)]
    by_cases hc : Int.tmod (cr l i - mag) 3600 = 0
    · rw [if_pos hc]
      exact .inl rfl
    · rw [if_neg hc]
      exact points_l h h0 h1 n (i + 1) k (by omega) (by omega) (fun j hj2 => by
        rcases Nat.lt_or_eq_of_le (Nat.lt_succ_iff.1 hj2) with h2 | rfl
        · exact hj j h2
        · exact tmod_ne hc)
theorem CardTurns_pure {rs : List S81} (hr : ∀ p ∈ rs, U16 p) {a b : Int} (h0 : 0 ≤ a) (h1 : a < 256) (h2 : 0 ≤ b) (h3 : b < 65536) : ∃ k, agoniclaw05_CardTurns.f k rs a b = some true := by
  refine ⟨45000, ?_⟩
  obtain ⟨L, e, hL⟩ := made_f hr h0 h1 (k := 45000) (by omega)
  have hc := hL.chk
  have hv := valid_of_chk hc
  have hle := hv.le
  unfold agoniclaw05_CardTurns.f
  rw [e, Option.bind_some, w64 (x := b) (by omega) (by omega), Int.tmod_eq_emod_of_nonneg h2]
  have m0 : 0 ≤ b % 3600 := by omega
  have m1 : b % 3600 < 3600 := by omega
  generalize b % 3600 = m at *
  rcases points_l hv m0 m1 L.length 0 45000 (by omega) (by omega) (fun j hj => by omega) with hh | ⟨hnp, hh⟩
  · exact hh
  · refine hh.trans ?_
    have hnf : ∀ i, i < L.length → ¬ flatS L m i := fun i hi ⟨f1, t, ft, f2⟩ => by
      have := hnp i (by omega)
      omega
    obtain ⟨k, hk⟩ : ∃ k, 45000 - L.length - 1 = k := ⟨_, rfl⟩
    rw [hk]
    rcases Courses_is hv (k := k) (by omega) m0 m1 with ⟨⟨i, hi, hf⟩, _⟩ | ⟨_, xs, e1, _, hp, _⟩
    · exact absurd hf (hnf i hi)
    · have hlen : xs.length ≤ 180 := by
        have := allC_len L m L.length
        rw [hp.length_eq]; omega
      have hcr : card_Courses.f k L m = some (xs.map c29, 0) := by
        rw [Courses_head (by omega) (by omega), if_pos hc, if_pos ⟨m0, m1⟩, e1, Option.bind_some, if_pos rfl]
        exact cout_l xs.length xs 0 k (by omega) (by omega) (by omega)
      rw [hcr, Option.bind_some, if_pos rfl]
      dsimp only
      rw [List.length_map]
      have ht := turns_l hv (mag := m) (xs := xs) (by omega) (fun x hx => hp.mem_iff.1 hx) 1000 101 (by omega) (by omega) xs.length 0 k 0 (by omega) (by omega) (by omega) (by omega)
      refine (show agoniclaw05_CardTurns.l1 k L 0 (xs.map c29) (xs.length : Int) 0 = _ from ht).trans ?_
      rw [List.drop_zero, sumZ_perm (hp.map (sgF L)), turns_one hv m0 m1 hnp]
      rfl
end Go.Proofs.Ytccjefoejjnccaa.M
