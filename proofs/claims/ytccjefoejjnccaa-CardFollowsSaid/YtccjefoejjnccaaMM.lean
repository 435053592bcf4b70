/- What is proved here: the plain laws, with no program in sight: what is computed is as the statements say. -/
import Derived.Test.YtccjefoejjnccaaC4
import Derived.Test.YtccjefoejjnccaaH5
import Derived.Test.YtccjefoejjnccaaC8
import Derived.Test.YtccjefoejjnccaaC9
import Derived.Test.YtccjefoejjnccaaC11
import Derived.Test.YtccjefoejjnccaaC6
import Derived.Test.YtccjefoejjnccaaC7
import Derived.Test.YtccjefoejjnccaaC10
import Derived.Test.YtccjefoejjnccaaC21
import Derived.Test.YtccjefoejjnccaaC0
import Derived.Test.YtccjefoejjnccaaC1
import Derived.Test.YtccjefoejjnccaaC3
import Derived.Test.YtccjefoejjnccaaH13
import Derived.Test.YtccjefoejjnccaaC14
import Derived.Test.YtccjefoejjnccaaC15
import Derived.Test.YtccjefoejjnccaaH6
import Derived.Test.YtccjefoejjnccaaH7
import Derived.Test.YtccjefoejjnccaaC24
/- What is proved here: the greatest divisor, reduced fractions and their sums, as the program and the reference compute them. -/
namespace Go.Proofs.Ytccjefoejjnccaa.M
open Go.Proofs.Ytccjefoejjnccaa Go.RowKit Go.Proofs.Ytccjefoejjnccaa.C Go.Proofs.YtccjefoejjnccaaW.PrintWords Go.Proofs.YtccjefoejjnccaaW.PrintLast Go.Proofs.YtccjefoejjnccaaW.PrintMore
theorem div_loop : ∀ (j : Nat) (a b : Nat) (k : Nat), b < 2 ^ j → 2 * j + 1 ≤ k → card_divisor.l0 k a b = some ((Nat.gcd a b : Nat) : Int)
  | 0, a, b, k, hb, hk => by
    obtain rfl : b = 0 := by omega
    obtain ⟨k, rfl⟩ : ∃ k', k = k' + 1 := ⟨k - 1, by omega⟩
    unfold card_divisor.l0
    simp
  | j + 1, a, b, k, hb, hk => by
    obtain ⟨k, rfl⟩ : ∃ k', k = k' + 2 := ⟨k - 2, by omega⟩
    unfold card_divisor.l0
    rcases Nat.eq_zero_or_pos b with rfl | hp
    · simp
    · rw [if_pos (by omega), if_neg (by omega)]
      have e1 : (a : Int).tmod b = ((a % b : Nat) : Int) := (Int.ofNat_tmod _ _).symm
      rw [e1]
      unfold card_divisor.l0
      have h1 : a % b < b := Nat.mod_lt _ hp
      rcases Nat.eq_zero_or_pos (a % b) with h0 | h0
      · rw [h0, if_neg (by omega), Nat.gcd_comm, Nat.gcd_rec, h0, Nat.gcd_zero_left]
      · rw [if_pos (by omega), if_neg (by omega)]
        have e2 : (b : Int).tmod ((a % b : Nat) : Int) = ((b % (a % b) : Nat) : Int) := (Int.ofNat_tmod _ _).symm
        have h2 : b % (a % b) < a % b := Nat.mod_lt _ h0
        have h3 : b % (a % b) + (a % b) ≤ b := by
          have := Nat.div_add_mod b (a % b)
          have h4 : 1 ≤ b / (a % b) := Nat.div_pos (Nat.le_of_lt h1) h0
          have h5 : a % b * 1 ≤ a % b * (b / (a % b)) := Nat.mul_le_mul_left _ h4
          omega
        rw [e2, div_loop j _ _ k (by rw [Nat.pow_succ] at hb; omega) (by omega)]
        rw [Nat.gcd_comm (a % b), ← Nat.gcd_rec, ← Nat.gcd_rec, Nat.gcd_comm]
theorem w64 {x : Int} (h1 : -9223372036854775808 ≤ x) (h2 : x < 9223372036854775808) : wrap64 x = x := by unfold wrap64; omega
theorem mx_neg (a : Int) (h1 : -4611686018427387904 ≤ a) (h2 : a ≤ 4611686018427387904) : mx a (wrap64 (-a)) = (a.natAbs : Int) := by
  rw [w64 (by omega) (by omega)]
  unfold mx
  split <;> omega
theorem divisor_f {k : Nat} (hk : 130 ≤ k) {a b : Int} (ha1 : -4611686018427387904 ≤ a) (ha2 : a ≤ 4611686018427387904) (hb1 : -4611686018427387904 ≤ b) (hb2 : b ≤ 4611686018427387904) :
    card_divisor.f k a b = some (Int.gcd a b : Int) := by
  unfold card_divisor.f
  rw [mx_neg a ha1 ha2, mx_neg b hb1 hb2, div_loop 64 _ _ k (by have : (2:Nat)^64 = 18446744073709551616 := rfl; omega) (by omega)]
  rfl
/-- (p, q) is the reduced form of n / d. -/
def IsR (p q n d : Int) : Prop := 1 ≤ q ∧ Int.gcd p q = 1 ∧ p * d = n * q
theorem isR_unique {p q p' q' n d : Int} (hd : d ≠ 0) (h : IsR p q n d) (h' : IsR p' q' n d) : p = p' ∧ q = q' := by
  obtain ⟨h1, h2, h3⟩ := h
  obtain ⟨h1', h2', h3'⟩ := h'
  refine H.frac_eq h1 h1' h2 h2' ?_
  have e : d * (p * q') = d * (p' * q) := by
    have e1 : d * (p * q') = n * q * q' := by rw [← h3]; grind
    have e2 : d * (p' * q) = n * q' * q := by rw [← h3']; grind
    rw [e1, e2]; grind
  exact Int.eq_of_mul_eq_mul_left hd e
theorem isR_conv {p q n d n' d' : Int} (hd : d ≠ 0) (h : IsR p q n d) (e : n * d' = n' * d) : IsR p q n' d' := by
  obtain ⟨h1, h2, h3⟩ := h
  refine ⟨h1, h2, Int.eq_of_mul_eq_mul_left hd ?_⟩
  have e1 : d * (p * d') = n * d' * q := by
    have : d * (p * d') = p * d * d' := by grind
    rw [this, h3]; grind
  rw [e1, e]; grind
theorem isR_dvd {p q n d P : Int} (h : IsR p q n d) (hd : d ∣ P) : q ∣ P := by
  obtain ⟨h1, h2, h3⟩ := h
  have h0 : q ∣ p * d := ⟨n, by rw [h3, Int.mul_comm]⟩
  rw [← Int.natAbs_dvd_natAbs, Int.natAbs_mul] at h0
  have h4 : Nat.Coprime q.natAbs p.natAbs := by rw [Nat.Coprime, Nat.gcd_comm]; exact h2
  exact Int.dvd_trans (Int.natAbs_dvd_natAbs.1 (h4.dvd_of_dvd_mul_left h0)) hd
theorem isR_bd {p q n d A : Int} (h : IsR p q n d) (hd : 1 ≤ d) (h1 : -(A * d) ≤ n) (h2 : n ≤ A * d) : -(A * q) ≤ p ∧ p ≤ A * q := by
  obtain ⟨hq, _, h3⟩ := h
  have e1 : n * q ≤ A * d * q := Int.mul_le_mul_of_nonneg_right h2 (by omega)
  have e2 : -(A * d) * q ≤ n * q := Int.mul_le_mul_of_nonneg_right h1 (by omega)
  constructor
  · have : -(A * q) * d ≤ p * d := by rw [h3]; have e : -(A * q) * d = -(A * d) * q := by grind
                                      rw [e]; exact e2
    exact Int.le_of_mul_le_mul_right this (by omega)
  · have : p * d ≤ A * q * d := by rw [h3]; have e : A * q * d = A * d * q := by grind
                                   rw [e]; exact e1
    exact Int.le_of_mul_le_mul_right this (by omega)
theorem isR_lt {p q n d : Int} (h : IsR p q n d) (hd : 1 ≤ d) (c : Int) : p < c * q ↔ n < c * d := by
  obtain ⟨hq, _, h3⟩ := h
  constructor
  · intro h
    have : p * d < c * q * d := Int.mul_lt_mul_of_pos_right h (by omega)
    rw [h3] at this
    have e : c * q * d = c * d * q := by grind
    rw [e] at this
    exact Int.lt_of_mul_lt_mul_right this (by omega)
  · intro h
    have : n * q < c * d * q := Int.mul_lt_mul_of_pos_right h (by omega)
    rw [← h3] at this
    have e : c * d * q = c * q * d := by grind
    rw [e] at this
    exact Int.lt_of_mul_lt_mul_right this (by omega)
theorem tdiv_gcd {n d : Int} (h : 0 < d) : ∃ a b, n.tdiv (Int.gcd n d) = a ∧ d.tdiv (Int.gcd n d) = b ∧ (Int.gcd n d : Int) ≠ 0 ∧ IsR a b n d ∧ a.natAbs ≤ n.natAbs ∧ b ≤ d := by
  have hd : d ≠ 0 := by omega
  have hg : 0 < Int.gcd n d := Int.gcd_pos_of_ne_zero_right n hd
  obtain ⟨a, ha⟩ := Int.gcd_dvd_left n d
  obtain ⟨b, hb⟩ := Int.gcd_dvd_right n d
  have hG0 : Int.gcd n d = Int.gcd n d := rfl
  generalize hG : (Int.gcd n d : Int) = g at *
  have hg0 : 0 < g := by omega
  have hb0 : 0 < b := by
    rcases Int.lt_or_le 0 b with h' | h'
    · exact h'
    · have : g * b ≤ 0 := Int.mul_nonpos_of_nonneg_of_nonpos (by omega) h'
      omega
  refine ⟨a, b, ?_, ?_, by omega, ⟨by omega, ?_, ?_⟩, ?_, ?_⟩
  · rw [ha, Int.mul_tdiv_cancel_left _ (by omega)]
  · rw [hb, Int.mul_tdiv_cancel_left _ (by omega)]
  · have h1 : Int.gcd (g * a) (g * b) = g.natAbs * Int.gcd a b := Int.gcd_mul_left _ _ _
    rw [← ha, ← hb] at h1
    have h2 : g.natAbs = Int.gcd n d := by omega
    rw [h2] at h1
    exact Nat.eq_of_mul_eq_mul_left hg (by rw [← h1, Nat.mul_one])
  · rw [ha, hb]; grind
  · rw [ha, Int.natAbs_mul]
    exact Nat.le_mul_of_pos_left _ (by omega)
  · rw [hb]
    have : 1 * b ≤ g * b := Int.mul_le_mul_of_nonneg_right (by omega) (by omega)
    omega
theorem plain_f {k : Nat} (hk : 130 ≤ k) {n d : Int} (hn1 : -4611686018427387904 ≤ n) (hn2 : n ≤ 4611686018427387904) (hd1 : -4611686018427387904 ≤ d) (hd2 : d ≤ 4611686018427387904) (hd : d ≠ 0) :
    ∃ p q, card_ratio_plain.f k n d = some (p, q) ∧ IsR p q n d ∧ p.natAbs ≤ n.natAbs ∧ q ≤ d.natAbs := by
  unfold card_ratio_plain.f
  by_cases hneg : d < 0
  · rw [if_pos hneg, w64 (by omega) (by omega), w64 (by omega) (by omega), divisor_f hk (by omega) (by omega) (by omega) (by omega), Option.bind_some]
    obtain ⟨a, b, e1, e2, e3, ⟨h1, h2, h3⟩, h4, h5⟩ := tdiv_gcd (n := -n) (d := -d) (by omega)
    rw [if_neg e3, e1, e2, w64 (by omega) (by omega), w64 (by omega) (by omega)]
    exact ⟨a, b, rfl, ⟨h1, h2, by grind⟩, by omega, by omega⟩
  · rw [if_neg hneg, divisor_f hk (by omega) (by omega) (by omega) (by omega), Option.bind_some]
    obtain ⟨a, b, e1, e2, e3, ⟨h1, h2, h3⟩, h4, h5⟩ := tdiv_gcd (n := n) (d := d) (by omega)
    rw [if_neg e3, e1, e2, w64 (by omega) (by omega), w64 (by omega) (by omega)]
    exact ⟨a, b, rfl, ⟨h1, h2, h3⟩, by omega, by omega⟩
theorem mul_bd {a b A B : Int} (h1 : -A ≤ a) (h2 : a ≤ A) (h3 : 0 ≤ b) (h4 : b ≤ B) : -(A * B) ≤ a * b ∧ a * b ≤ A * B := by
  have hA : 0 ≤ A := by omega
  have e1 : a * b ≤ A * b := Int.mul_le_mul_of_nonneg_right h2 h3
  have e2 : A * b ≤ A * B := Int.mul_le_mul_of_nonneg_left h4 hA
  have e3 : (-A) * b ≤ a * b := Int.mul_le_mul_of_nonneg_right h1 h3
  have e4 : (-A) * b = -(A * b) := Int.neg_mul _ _
  omega
/-- What is known of two fractions whose sum is reckoned. -/
structure Fit (a b c e P A C : Int) : Prop where
  hb : 1 ≤ b
  he : 1 ≤ e
  hbP : b ∣ P
  heP : e ∣ P
  hP : 1 ≤ P
  hP2 : P ≤ 2305843009213693952
  a0 : -(A * b) ≤ a
  a1 : a ≤ A * b
  c0 : -(C * e) ≤ c
  c1 : c ≤ C * e
  hA : 0 ≤ A
  hC : 0 ≤ C
  hs : (A + C) * P ≤ 2305843009213693952
/-- One sum: what both programs compute. -/
theorem sum_parts {a b c e P A C : Int} (h : Fit a b c e P A C) :
    ∃ x y : Int, (Int.gcd b e : Int) ≠ 0 ∧ wrap64 (e.tdiv (Int.gcd b e)) = y ∧ wrap64 (b.tdiv (Int.gcd b e)) = x ∧ wrap64 (a * y) = a * y ∧ wrap64 (c * x) = c * x ∧ wrap64 (a * y + c * x) = a * y + c * x ∧ wrap64 (x * e) = x * e ∧
      -4611686018427387904 ≤ a * y + c * x ∧ a * y + c * x ≤ 4611686018427387904 ∧ 1 ≤ x * e ∧ x * e ≤ 2305843009213693952 ∧
      ∀ p q, IsR p q (a * y + c * x) (x * e) → IsR p q (a * e + c * b) (b * e) ∧ q ∣ P ∧ -((A + C) * q) ≤ p ∧ p ≤ (A + C) * q := by
  obtain ⟨hb, he, hbP, heP, hP, hP2, a0, a1, c0, c1, hA, hC, hs⟩ := h
  have hg : 0 < Int.gcd b e := Int.gcd_pos_of_ne_zero_right b (by omega)
  have hco0 : ∀ x y : Int, b = (Int.gcd b e : Int) * x → e = (Int.gcd b e : Int) * y → Int.gcd x y = 1 := by
    intro x y hx hy
    have h1 : Int.gcd ((Int.gcd b e : Int) * x) ((Int.gcd b e : Int) * y) = (Int.gcd b e : Int).natAbs * Int.gcd x y := Int.gcd_mul_left _ _ _
    rw [← hx, ← hy] at h1
    have h2 : (Int.gcd b e : Int).natAbs = Int.gcd b e := by omega
    rw [h2] at h1
    exact Nat.eq_of_mul_eq_mul_left hg (by rw [← h1, Nat.mul_one])
  obtain ⟨x, hx⟩ := Int.gcd_dvd_left b e
  obtain ⟨y, hy⟩ := Int.gcd_dvd_right b e
  have hco := hco0 x y hx hy
  clear hco0
  generalize hG : (Int.gcd b e : Int) = g at *
  have hg0 : 0 < g := by omega
  have hx0 : 0 < x := by
    rcases Int.lt_or_le 0 x with h' | h'
    · exact h'
    · have : g * x ≤ 0 := Int.mul_nonpos_of_nonneg_of_nonpos (by omega) h'
      omega
  have hy0 : 0 < y := by
    rcases Int.lt_or_le 0 y with h' | h'
    · exact h'
    · have : g * y ≤ 0 := Int.mul_nonpos_of_nonneg_of_nonpos (by omega) h'
      omega
  have hxe : 0 < x * e := Int.mul_pos hx0 (by omega)
  have hxeb : x * e = b * y := by rw [hx]; conv => lhs; rw [hy]
                                  grind
  -- the smallest common multiple divides P
  have hlcm : x * e ∣ P := by
    obtain ⟨u, hu⟩ := heP
    obtain ⟨v, hv⟩ := hbP
    have h1 : y * u = x * v := by
      have : g * (y * u) = g * (x * v) := by
        have e1 : g * (y * u) = P := by rw [hu]; conv => rhs; rw [hy]
                                        grind
        have e2 : g * (x * v) = P := by rw [hv]; conv => rhs; rw [hx]
                                        grind
        rw [e1, e2]
      exact Int.eq_of_mul_eq_mul_left (by omega) this
    have h2 : x ∣ y * u := ⟨v, h1⟩
    rw [← Int.natAbs_dvd_natAbs, Int.natAbs_mul] at h2
    have h3 : x ∣ u := Int.natAbs_dvd_natAbs.1 (Nat.Coprime.dvd_of_dvd_mul_left hco h2)
    obtain ⟨w, hw⟩ := h3
    exact ⟨w, by rw [hu, hw]; grind⟩
  have hle : x * e ≤ P := Int.le_of_dvd (by omega) hlcm
  have hxle : x ≤ x * e := by have : x * 1 ≤ x * e := Int.mul_le_mul_of_nonneg_left (by omega) (by omega); omega
  have hyle : y ≤ x * e := by rw [hxeb]; have : 1 * y ≤ b * y := Int.mul_le_mul_of_nonneg_right (by omega) (by omega); omega
  have hAP : 0 ≤ A * P := Int.mul_nonneg hA (by omega)
  have hCP : 0 ≤ C * P := Int.mul_nonneg hC (by omega)
  have hsum : A * P + C * P ≤ 2305843009213693952 := by rw [← Int.add_mul]; exact hs
  have k1 : a * y ≤ A * P ∧ -(A * P) ≤ a * y := by
    have e1 : a * y ≤ A * b * y := Int.mul_le_mul_of_nonneg_right a1 (by omega)
    have e2 : -(A * b) * y ≤ a * y := Int.mul_le_mul_of_nonneg_right a0 (by omega)
    have e3 : A * b * y = A * (x * e) := by rw [hxeb]; grind
    have e4 : A * (x * e) ≤ A * P := Int.mul_le_mul_of_nonneg_left hle hA
    have e5 : -(A * b) * y = -(A * b * y) := Int.neg_mul _ _
    omega
  have k2 : c * x ≤ C * P ∧ -(C * P) ≤ c * x := by
    have e1 : c * x ≤ C * e * x := Int.mul_le_mul_of_nonneg_right c1 (by omega)
    have e2 : -(C * e) * x ≤ c * x := Int.mul_le_mul_of_nonneg_right c0 (by omega)
    have e3 : C * e * x = C * (x * e) := by grind
    have e4 : C * (x * e) ≤ C * P := Int.mul_le_mul_of_nonneg_left hle hC
    have e5 : -(C * e) * x = -(C * e * x) := Int.neg_mul _ _
    omega
  have t1 : e.tdiv g = y := by rw [hy, Int.mul_tdiv_cancel_left _ (by omega)]
  have t2 : b.tdiv g = x := by rw [hx, Int.mul_tdiv_cancel_left _ (by omega)]
  refine ⟨x, y, by omega, by rw [t1, w64 (by omega) (by omega)], by rw [t2, w64 (by omega) (by omega)], w64 (by omega) (by omega), w64 (by omega) (by omega), w64 (by omega) (by omega), w64 (by omega) (by omega), by omega, by omega, by omega, by omega, fun p q hr => ?_⟩
  refine ⟨isR_conv (by omega) hr ?_, isR_dvd hr hlcm, ?_⟩
  · have r1 : a * e + c * b = g * (a * y + c * x) := by
      conv => lhs; rw [hx]
      conv => lhs; lhs; rw [hy]
      grind
    have r2 : b * e = g * (x * e) := by conv => lhs; rw [hx]
                                        grind
    rw [r1, r2]; grind
  · refine isR_bd hr (by omega) ?_ ?_
    · have e1 : -(A * b) * y ≤ a * y := Int.mul_le_mul_of_nonneg_right a0 (by omega)
      have e2 : -(C * e) * x ≤ c * x := Int.mul_le_mul_of_nonneg_right c0 (by omega)
      have e3 : -((A + C) * (x * e)) = -(A * b) * y + -(C * e) * x := by
        have : A * b * y = A * (x * e) := by rw [hxeb]; grind
        grind
      omega
    · have e1 : a * y ≤ A * b * y := Int.mul_le_mul_of_nonneg_right a1 (by omega)
      have e2 : c * x ≤ C * e * x := Int.mul_le_mul_of_nonneg_right c1 (by omega)
      have e3 : (A + C) * (x * e) = A * b * y + C * e * x := by
        have : A * b * y = A * (x * e) := by rw [hxeb]; grind
        grind
      omega
/-- One round of the sum of a list. -/
theorem plus_step {k : Nat} (hk : 130 ≤ k) {l : List S101} {i : Nat} {a b P A C : Int} (hi : i < l.length) (hl : l.length < 1000000) (h : Fit a b (rd_T101 l i).f0 (rd_T101 l i).f1 P A C) :
    ∃ p q, card_ratio_plus.l0 (k + 1) l l.length i a b = card_ratio_plus.l0 k l l.length ((i + 1 : Nat) : Int) p q ∧ IsR p q (a * (rd_T101 l i).f1 + (rd_T101 l i).f0 * b) (b * (rd_T101 l i).f1) ∧ q ∣ P ∧ -((A + C) * q) ≤ p ∧ p ≤ (A + C) * q := by
  obtain ⟨x, y, e0, e1, e2, e3, e4, e5, e6, b1, b2, b3, b4, hx⟩ := sum_parts h
  have hb := h.hb
  have he := h.he
  have hbP := Int.le_of_dvd (by have := h.hP; omega) h.hbP
  have heP := Int.le_of_dvd (by have := h.hP; omega) h.heP
  have hP2 := h.hP2
  obtain ⟨p, q, hf, hr, _⟩ := plain_f hk b1 b2 (d := x * (rd_T101 l i).f1) (by omega) (by omega) (by omega)
  refine ⟨p, q, ?_, hx p q hr⟩
  conv => lhs; unfold card_ratio_plus.l0
  rw [if_pos (by omega), if_pos (by omega), if_pos (by omega), divisor_f hk (by omega) (by omega) (by omega) (by omega), Option.bind_some, if_neg e0, e1, e2, e3, e4, e5, e6, hf, Option.bind_some, w64 (by omega) (by omega)]
  rfl
/-- The sum of two fractions. -/
theorem plus1_f {k : Nat} (hk : 132 ≤ k) {a b c e P A C : Int} (h : Fit a b c e P A C) :
    ∃ p q, card_ratio_plus.f k a b [⟨c, e⟩] = some (p, q) ∧ IsR p q (a * e + c * b) (b * e) ∧ q ∣ P ∧ -((A + C) * q) ≤ p ∧ p ≤ (A + C) * q := by
  obtain ⟨k, rfl⟩ : ∃ k', k = k' + 2 := ⟨k - 2, by omega⟩
  obtain ⟨p, q, hf, hr⟩ := plus_step (k := k + 1) (by omega) (l := [⟨c, e⟩]) (i := 0) (by simp) (by simp) h
  refine ⟨p, q, ?_, hr⟩
  unfold card_ratio_plus.f
  refine hf.trans ?_
  unfold card_ratio_plus.l0
  rw [if_neg (by simp)]
theorem ref_div_l : ∀ k a b, agonicref01_Divisor.l0 k a b = card_divisor.l0 k a b
  | 0, _, _ => rfl
  | k + 1, a, b => by
    unfold agonicref01_Divisor.l0 card_divisor.l0
    simp only [ref_div_l k]
theorem ref_div (k : Nat) (a b : Int) : agonicref01_Divisor.f k a b = card_divisor.f k a b := ref_div_l _ _ _
theorem ref_red (k : Nat) (a b : Int) : agonicref01_Reduced.f k a b = card_ratio_plain.f k a b := by
  unfold agonicref01_Reduced.f card_ratio_plain.f
  simp only [ref_div]
theorem ref_plus {k : Nat} (hk : 132 ≤ k) {a b c e P A C : Int} (h : Fit a b c e P A C) :
    ∃ p q, agonicref05_Plus.f k a b c e = some (p, q) ∧ IsR p q (a * e + c * b) (b * e) ∧ q ∣ P ∧ -((A + C) * q) ≤ p ∧ p ≤ (A + C) * q := by
  obtain ⟨x, y, e0, e1, e2, e3, e4, e5, e6, b1, b2, b3, b4, hx⟩ := sum_parts h
  have hb := h.hb
  have he := h.he
  have hbP := Int.le_of_dvd (by have := h.hP; omega) h.hbP
  have heP := Int.le_of_dvd (by have := h.hP; omega) h.heP
  have hP2 := h.hP2
  obtain ⟨p, q, hf, hr, _⟩ := plain_f (k := k) (by omega) b1 b2 (d := x * e) (by omega) (by omega) (by omega)
  refine ⟨p, q, ?_, hx p q hr⟩
  unfold agonicref05_Plus.f
  rw [ref_div, divisor_f (by omega) (by omega) (by omega) (by omega) (by omega), Option.bind_some, if_neg e0, e1, e2, e3, e4, e5, e6, ref_red, hf, Option.bind_some]
theorem less_f {a b c e : Int} (h1 : -9223372036854775808 ≤ a * e) (h2 : a * e < 9223372036854775808) (h3 : -9223372036854775808 ≤ c * b) (h4 : c * b < 9223372036854775808) : agonicref01_Less.f a b c e = some (decide (a * e < c * b)) := by
  unfold agonicref01_Less.f
  rw [w64 h1 h2, w64 h3 h4]
/-- A fraction is brought back into a turn: its numerator modulo a turn of its denominator. -/
theorem around_f {n d : Int} (hd : 1 ≤ d) (hd2 : d ≤ 1000000000000) (h1 : -1000000000000000 ≤ n) (h2 : n ≤ 1000000000000000) : card_ratio_around.f n d = some (n % (3600 * d), d) := by
  unfold card_ratio_around.f
  rw [w64 (x := 3600 * d) (by omega) (by omega), if_neg (by omega)]
  have ht : n.tmod (3600 * d) = if 0 ≤ n then n % (3600 * d) else -((-n) % (3600 * d)) := by
    split
    · exact Int.tmod_eq_emod_of_nonneg (by assumption)
    · have e : n = -(-n) := by omega
      conv => lhs; rw [e]
      rw [Int.neg_tmod, Int.tmod_eq_emod_of_nonneg (by omega)]
  have m0 := Int.emod_nonneg n (b := 3600 * d) (by omega)
  have m1 := Int.emod_lt_of_pos n (b := 3600 * d) (by omega)
  have m2 := Int.emod_nonneg (-n) (b := 3600 * d) (by omega)
  have m3 := Int.emod_lt_of_pos (-n) (b := 3600 * d) (by omega)
  have hneg : (-n) % (3600 * d) = 0 ∧ n % (3600 * d) = 0 ∨ n % (3600 * d) = 3600 * d - (-n) % (3600 * d) := by
    have h' : (n % (3600 * d) + (-n) % (3600 * d)) % (3600 * d) = 0 := by
      rw [← Int.add_emod, Int.add_right_neg, Int.zero_emod]
    obtain ⟨t, ht⟩ := Int.dvd_of_emod_eq_zero h'
    rcases Int.lt_trichotomy t 0 with h0 | h0 | h0
    · have : 3600 * d * t ≤ 3600 * d * (-1) := Int.mul_le_mul_of_nonneg_left (by omega) (by omega)
      omega
    · subst h0; omega
    · rcases Int.lt_or_le 1 t with h3 | h3
      · have : 3600 * d * 2 ≤ 3600 * d * t := Int.mul_le_mul_of_nonneg_left (by omega) (by omega)
        omega
      · obtain rfl : t = 1 := by omega
        omega
  rw [ht]
  by_cases h0 : 0 ≤ n
  · rw [if_pos h0, if_neg (by omega)]
  · rw [if_neg h0]
    split
    · rw [w64 (by omega) (by omega)]
      have : -((-n) % (3600 * d)) + 3600 * d = n % (3600 * d) := by omega
      rw [this]
    · have : -((-n) % (3600 * d)) = n % (3600 * d) := by omega
      rw [this]
theorem raround_up : ∀ (t : Nat) (k : Nat) (n d : Int), 1 ≤ d → d ≤ 1000000000000 → -100000000000000000 ≤ n → n ≤ 100000000000000000 → -(3600 * d * t) ≤ n → n < 3600 * d * t → 2 * t + 2 ≤ k → agonicref05_around.l0 k n d = some (n % (3600 * d), d) ∧ (0 ≤ n → agonicref05_around.l1 k n d = some (n % (3600 * d), d))
  | 0, k, n, d, h1, h2, h3, h4, h5, h6, hk => by simp at h5 h6; omega
  | t + 1, k, n, d, h1, h2, h3, h4, h5, h6, hk => by
    have hT : 3600 * d * ((t + 1 : Nat) : Int) = 3600 * d * t + 3600 * d := by grind
    rw [hT] at h5 h6
    have h0t : 0 ≤ 3600 * d * (t : Int) := Int.mul_nonneg (by omega) (by omega)
    have ew : wrap64 (3600 * d) = 3600 * d := w64 (by omega) (by omega)
    have second : ∀ k, 2 * t + 3 ≤ k + 1 → 0 ≤ n → agonicref05_around.l1 (k + 1) n d = some (n % (3600 * d), d) := by
      intro k hk hn
      conv => lhs; unfold agonicref05_around.l1
      rw [ew]
      by_cases hc : n ≥ 3600 * d
      · rw [if_pos hc, w64 (by omega) (by omega)]
        rcases Nat.eq_zero_or_pos t with rfl | ht
        · simp at hT; omega
        · have h3t : 3600 * d * 1 ≤ 3600 * d * (t : Int) := Int.mul_le_mul_of_nonneg_left (by omega) (by omega)
          rw [(raround_up t k (n - 3600 * d) d h1 h2 (by omega) (by omega) (by omega) (by omega) (by omega)).2 (by omega), Int.sub_emod_right]
      · rw [if_neg hc, Int.emod_eq_of_lt hn (by omega)]
    obtain ⟨k, rfl⟩ : ∃ k', k = k' + 2 := ⟨k - 2, by omega⟩
    refine ⟨?_, fun hn => second _ (by omega) hn⟩
    conv => lhs; unfold agonicref05_around.l0
    rw [ew]
    by_cases hc : n < 0
    · rw [if_pos hc, w64 (by omega) (by omega)]
      rcases Nat.eq_zero_or_pos t with rfl | ht
      · have e : n % (3600 * d) = n + 3600 * d := by
          rw [← Int.add_emod_right, Int.emod_eq_of_lt (by omega) (by omega)]
        unfold agonicref05_around.l0
        rw [if_neg (by omega)]
        obtain ⟨k, rfl⟩ : ∃ k', k = k' + 1 := ⟨k - 1, by omega⟩
        unfold agonicref05_around.l1
        rw [ew, if_neg (by omega), e]
      · have h3t : 3600 * d * 1 ≤ 3600 * d * (t : Int) := Int.mul_le_mul_of_nonneg_left (by omega) (by omega)
        rw [(raround_up t (k + 1) (n + 3600 * d) d h1 h2 (by omega) (by omega) (by omega) (by omega) (by omega)).1, Int.add_emod_right]
    · rw [if_neg hc]
      exact second _ (by omega) (by omega)
end Go.Proofs.Ytccjefoejjnccaa.M
/- What is proved here: a card is checked alike by the program and by the reference. -/
namespace Go.Proofs.Ytccjefoejjnccaa.M
open Go.Proofs.Ytccjefoejjnccaa Go.RowKit Go.Proofs.Ytccjefoejjnccaa.C Go.Proofs.YtccjefoejjnccaaW.PrintWords Go.Proofs.YtccjefoejjnccaaW.PrintLast Go.Proofs.YtccjefoejjnccaaW.PrintMore
/-- The error of a list of points behind a heading. -/
def chk : Int → List S55 → Int
  | _, [] => 0
  | last, p :: ps => if ¬ (0 ≤ p.f0 ∧ p.f0 < 3600 ∧ -900 ≤ p.f1 ∧ p.f1 ≤ 900) then 1 else if p.f0 = last then 7 else if p.f0 < last then 5 else chk p.f0 ps
def chkAll (l : List S55) : Int := if l.length = 0 then 2 else if l.length > 36 then 3 else chk (-1) l
def asK (p : S55) : S92 := ⟨p.f0, ⟨p.f1, p.f1⟩⟩
theorem rd_get {l : List S55} {i : Nat} (h : i < l.length) : rd_T55 l (i : Int) = l[i] := by
  unfold rd_T55
  rw [List.getD_eq_getElem?_getD, Int.toNat_natCast, List.getElem?_eq_getElem h]; rfl
theorem rd_get92 {l : List S92} {i : Nat} (h : i < l.length) : rd_T92 l (i : Int) = l[i] := by
  unfold rd_T92
  rw [List.getD_eq_getElem?_getD, Int.toNat_natCast, List.getElem?_eq_getElem h]; rfl
theorem known_l : ∀ (n : Nat) (l : List S55) (i : Nat) (k : Nat) (acc : List S92), i + n = l.length → l.length < 1000000 → acc.length = i → n + 1 ≤ k → card_Card_known.l0 k acc l (l.length : Int) (i : Int) = some (acc ++ (l.drop i).map asK)
  | 0, l, i, k, acc, h, hl, ha, hk => by
    obtain ⟨k, rfl⟩ : ∃ k', k = k' + 1 := ⟨k - 1, by omega⟩
    unfold card_Card_known.l0
    rw [if_neg (by omega), List.drop_of_length_le (by omega)]
    simp
  | n + 1, l, i, k, acc, h, hl, ha, hk => by
    obtain ⟨k, rfl⟩ : ∃ k', k = k' + 1 := ⟨k - 1, by omega⟩
    unfold card_Card_known.l0
    rw [if_pos (by omega), if_pos (by omega), if_pos (by omega), if_pos (by omega), w64 (by omega) (by omega), rd_get (by omega : i < l.length)]
    rw [show ((i : Int) + 1) = ((i + 1 : Nat) : Int) by omega, known_l n l (i + 1) k _ (by omega) hl (by simp; omega) (by omega)]
    rw [List.drop_eq_getElem_cons (by omega : i < l.length), List.map_cons, List.append_assoc]
    rfl
theorem known_f {l : List S55} {k : Nat} (hl : l.length < 1000000) (hk : l.length + 1 ≤ k) : card_Card_known.f k l = some (l.map asK) := by
  unfold card_Card_known.f
  have := known_l l.length l 0 k [] (by omega) hl rfl hk
  simpa using this
theorem heading_f (a : Int) : card_heading.f a = some (decide (0 ≤ a ∧ a < 3600)) := by
  unfold card_heading.f
  by_cases h : a ≥ 0
  · rw [if_pos h]
    congr 1
    by_cases h2 : a < 3600
    · simp [h2, h]
    · simp [h2]
  · rw [if_neg h]
    simp
    omega
theorem wrong_f {k : Nat} (hk : 1 ≤ k) (a last lo hi : Int) : card_wrong.f k a last lo hi = some (if ¬ (0 ≤ a ∧ a < 3600 ∧ -900 ≤ lo ∧ lo ≤ hi ∧ hi ≤ 900) then 1 else if a = last then 7 else if a < last then 5 else 0) := by
  obtain ⟨k, rfl⟩ : ∃ k', k = k' + 1 := ⟨k - 1, by omega⟩
  have hj : ∀ b, card_wrong.j0 (k + 1) a last b = some (if b = true then 1 else if a = last then 7 else if a < last then 5 else 0) := by
    intro b
    simp only [card_wrong.j0]
    by_cases h1 : b = true
    · rw [if_pos h1, if_pos h1]
    · rw [if_neg h1, if_neg h1]
      by_cases h2 : a = last
      · rw [if_pos h2, if_pos h2]
      · rw [if_neg h2, if_neg h2]
        by_cases h3 : a < last
        · rw [if_pos h3, if_pos h3]
        · rw [if_neg h3, if_neg h3]
  unfold card_wrong.f
  simp only [heading_f, Option.bind_some, hj, decide_eq_true_eq]
  by_cases h1 : 0 ≤ a ∧ a < 3600
  · rw [if_pos h1]
    by_cases h2 : lo < -900
    · rw [if_pos h2, if_pos trivial, if_pos (by omega)]
    · rw [if_neg h2]
      by_cases h3 : lo > hi
      · rw [if_pos h3, if_pos trivial, if_pos (by omega)]
      · rw [if_neg h3]
        by_cases h4 : hi > 900
        · rw [if_pos h4, if_pos (by omega)]
        · rw [if_neg h4, if_neg (show ¬ ¬ (0 ≤ a ∧ a < 3600 ∧ -900 ≤ lo ∧ lo ≤ hi ∧ hi ≤ 900) from fun hn => hn (by omega))]
  · rw [if_neg h1, if_pos trivial, if_pos (by omega)]
/-- The error of a point behind a heading. -/
def wr (last : Int) (p : S55) : Int := if ¬ (0 ≤ p.f0 ∧ p.f0 < 3600 ∧ -900 ≤ p.f1 ∧ p.f1 ≤ 900) then 1 else if p.f0 = last then 7 else if p.f0 < last then 5 else 0
theorem chk_cons (last : Int) (p : S55) (ps : List S55) : chk last (p :: ps) = if wr last p = 0 then chk p.f0 ps else wr last p := by
  simp only [chk, wr]
  by_cases h1 : 0 ≤ p.f0 ∧ p.f0 < 3600 ∧ -900 ≤ p.f1 ∧ p.f1 ≤ 900
  · simp only [h1, not_true_eq_false, if_false, and_self]
    by_cases h2 : p.f0 = last
    · simp [h2]
    · simp only [h2, if_false]
      by_cases h3 : p.f0 < last
      · simp [h3]
      · simp [h3]
  · simp [h1]
theorem wrong_wr {k : Nat} (hk : 1 ≤ k) (p : S55) (last : Int) : card_wrong.f k p.f0 last p.f1 p.f1 = some (wr last p) := by
  rw [wrong_f hk]
  unfold wr
  congr 1
  have : (0 ≤ p.f0 ∧ p.f0 < 3600 ∧ -900 ≤ p.f1 ∧ p.f1 ≤ p.f1 ∧ p.f1 ≤ 900) = (0 ≤ p.f0 ∧ p.f0 < 3600 ∧ -900 ≤ p.f1 ∧ p.f1 ≤ 900) := by
    apply propext; omega
  simp only [this]
theorem kcheck_l : ∀ (n : Nat) (l : List S55) (i : Nat) (k : Nat) (last : Int), i + n = l.length → l.length < 1000000 → n + 2 ≤ k → card_Known_check.l0 k last (l.map asK) (l.length : Int) (i : Int) = some (chk last (l.drop i))
  | 0, l, i, k, last, h, hl, hk => by
    obtain ⟨k, rfl⟩ : ∃ k', k = k' + 1 := ⟨k - 1, by omega⟩
    unfold card_Known_check.l0
    rw [if_neg (by omega), List.drop_of_length_le (by omega)]
    rfl
  | n + 1, l, i, k, last, h, hl, hk => by
    obtain ⟨k, rfl⟩ : ∃ k', k = k' + 1 := ⟨k - 1, by omega⟩
    have hi : i < l.length := by omega
    unfold card_Known_check.l0
    rw [if_pos (by omega), if_pos (by omega), if_pos (by rw [List.length_map]; omega), rd_get92 (by rw [List.length_map]; exact hi), List.getElem_map]
    show (card_wrong.f k l[i].f0 last l[i].f1 l[i].f1).bind _ = _
    rw [wrong_wr (by omega), Option.bind_some, List.drop_eq_getElem_cons hi, chk_cons]
    by_cases h0 : wr last l[i] = 0
    · rw [if_pos h0, if_pos h0, w64 (by omega) (by omega), show ((i : Int) + 1) = ((i + 1 : Nat) : Int) by omega]
      exact kcheck_l n l (i + 1) k _ (by omega) hl (by omega)
    · rw [if_neg h0, if_neg h0]
theorem Check_f {l : List S55} {k : Nat} (hl : l.length < 1000000) (hk : l.length + 2 ≤ k) : card_Check.f k l = some (chkAll l) := by
  unfold card_Check.f
  rw [known_f hl (by omega), Option.bind_some]
  unfold card_Known_check.f chkAll
  rw [List.length_map]
  by_cases h1 : l.length = 0
  · rw [if_pos (by omega), if_pos h1]; rfl
  · rw [if_neg (by omega), if_neg h1]
    by_cases h2 : l.length > 36
    · rw [if_pos (by omega), if_pos h2]; rfl
    · rw [if_neg (by omega), if_neg h2]
      have := kcheck_l l.length l 0 k (-1) (by omega) hl hk
      rw [List.drop_zero] at this
      exact (congrArg (fun z => Option.bind z fun t => some t) this)
/-- A point in the reference's type. -/
def cv (p : S55) : S54 := ⟨p.f0, p.f1⟩
theorem rd_cv {l : List S55} {i : Nat} (h : i < l.length) : rd_T54 (l.map cv) (i : Int) = cv l[i] := by
  unfold rd_T54
  rw [List.getD_eq_getElem?_getD, Int.toNat_natCast, List.getElem?_map, List.getElem?_eq_getElem h]; rfl
theorem given_l : ∀ (n : Nat) (l : List S55) (i : Nat) (k : Nat), i + n = l.length → l.length < 1000000 → n + 1 ≤ k → agoniclaw05_given.l0 k l ((l.take i).map cv) (i : Int) = some (l.map cv)
  | 0, l, i, k, h, hl, hk => by
    obtain ⟨k, rfl⟩ : ∃ k', k = k' + 1 := ⟨k - 1, by omega⟩
    unfold agoniclaw05_given.l0
    rw [if_neg (by omega), List.take_of_length_le (by omega)]
  | n + 1, l, i, k, h, hl, hk => by
    obtain ⟨k, rfl⟩ : ∃ k', k = k' + 1 := ⟨k - 1, by omega⟩
    have hi : i < l.length := by omega
    unfold agoniclaw05_given.l0
    rw [if_pos (by omega), if_pos (by omega), if_pos (by simp; omega), w64 (by omega) (by omega), rd_get hi]
    have e : (l.take i).map cv ++ [(⟨l[i].f0, l[i].f1⟩ : S54)] = (l.take (i + 1)).map cv := by
      rw [List.take_succ_eq_append_getElem hi, List.map_append]; rfl
    rw [e, show ((i : Int) + 1) = ((i + 1 : Nat) : Int) by omega, given_l n l (i + 1) k (by omega) hl (by omega)]
theorem given_f {l : List S55} {k : Nat} (hl : l.length < 1000000) (hk : l.length + 1 ≤ k) : agoniclaw05_given.f k l = some (l.map cv) := by
  unfold agoniclaw05_given.f
  exact given_l l.length l 0 k (by omega) hl hk
theorem ris_f (a b c : Int) : agonicref05_is.f a b c = some (decide (b ≤ a ∧ a ≤ c)) := by
  unfold agonicref05_is.f agonicref01_Is.f
  by_cases h : a ≥ b
  · rw [if_pos h]
    have : b ≤ a := h
    simp [this]
  · rw [if_neg h]
    have : ¬ b ≤ a := h
    simp [this]
theorem rheading_f (a : Int) : agonicref05_heading.f a = some (decide (0 ≤ a ∧ a < 3600)) := by
  unfold agonicref05_heading.f
  rw [ris_f, Option.bind_some]
  have : (0 ≤ a ∧ a ≤ 3599) = (0 ≤ a ∧ a < 3600) := by apply propext; omega
  simp only [this]
theorem rcheck_l : ∀ (n : Nat) (l : List S55) (i : Nat) (k : Nat) (last : Int), i + n = l.length → l.length < 1000000 → 3 * n + 3 ≤ k → (i = 0 → last = -1) → (∀ j, j + 1 = i → ∀ h : j < l.length, last = l[j].f0) → agonicref05_Check.l0 k (l.map cv) (i : Int) = some (chk last (l.drop i))
  | 0, l, i, k, last, h, hl, hk, _, _ => by
    obtain ⟨k, rfl⟩ : ∃ k', k = k' + 1 := ⟨k - 1, by omega⟩
    unfold agonicref05_Check.l0
    rw [if_neg (by simp; omega), List.drop_of_length_le (by omega)]
    rfl
  | n + 1, l, i, k, last, h, hl, hk, h0, h1 => by
    obtain ⟨k, rfl⟩ : ∃ k', k = k' + 3 := ⟨k - 3, by omega⟩
    have hi : i < l.length := by omega
    unfold agonicref05_Check.l0
    rw [if_pos (by simp; omega), if_pos (by omega), rd_cv hi]
    simp only [rheading_f, ris_f, Option.bind_some, decide_eq_true_eq]
    have hj : ∀ b, agonicref05_Check.j1 (k + 2) (l.map cv) (i : Int) b = some (if b = true then 1 else if l[i].f0 = last then 7 else if l[i].f0 < last then 5 else chk l[i].f0 (l.drop (i + 1))) ∨ ¬ (0 ≤ l[i].f0 ∨ 0 < i) := by
      intro b
      by_cases hok : 0 ≤ l[i].f0 ∨ 0 < i
      · refine .inl ?_
        have hnext := rcheck_l n l (i + 1) k l[i].f0 (by omega) hl (by omega) (by omega) (fun j hj _ => by
          obtain rfl : j = i := by omega
          rfl)
        conv => lhs; unfold agonicref05_Check.j1
        by_cases hb : b = true
        · rw [if_pos hb, if_pos hb]
        · rw [if_neg hb, if_neg hb]
          rcases Nat.eq_zero_or_pos i with hz | hz
          · subst hz
            have hl0 := h0 rfl
            subst hl0
            rw [if_neg (by omega)]
            conv => lhs; unfold agonicref05_Check.j2
            rw [if_neg (by decide), if_neg (by omega), if_neg (by omega), if_neg (by omega), w64 (by omega) (by omega)]
            exact hnext
          · obtain ⟨j, rfl⟩ : ∃ j, i = j + 1 := ⟨i - 1, by omega⟩
            have hlast := h1 j rfl (by omega)
            have ew : wrap64 (((j + 1 : Nat) : Int) - 1) = (j : Int) := by rw [w64 (by omega) (by omega)]; omega
            rw [if_pos (by omega), if_pos (by omega), if_pos (by simp; omega), ew, if_pos (by omega), if_pos (by simp; omega), rd_cv hi, rd_cv (by omega)]
            conv => lhs; unfold agonicref05_Check.j2
            have ef : ((cv l[j + 1]).f0 == (cv l[j]).f0) = decide (l[j + 1].f0 = last) := by
              rw [hlast]; rfl
            rw [ef]
            by_cases h7 : l[j + 1].f0 = last
            · rw [if_pos (by simpa using h7), if_pos h7]
            · rw [if_neg (by simpa using h7), if_neg h7, if_pos (by omega), if_pos (by omega), if_pos (by simp; omega), ew, if_pos (by omega), if_pos (by simp; omega), rd_cv hi, rd_cv (by omega)]
              have e5 : ((cv l[j + 1]).f0 < (cv l[j]).f0) = (l[j + 1].f0 < last) := by rw [hlast]; rfl
              simp only [e5]
              by_cases h5 : l[j + 1].f0 < last
              · rw [if_pos h5, if_pos h5]
              · rw [if_neg h5, if_neg h5, w64 (by omega) (by omega)]
                exact hnext
      · exact .inr hok
    rw [List.drop_eq_getElem_cons hi]
    have hcv0 : (cv l[i]).f0 = l[i].f0 := rfl
    have hcv1 : (cv l[i]).f1 = l[i].f1 := rfl
    rw [hcv0, hcv1]
    have htrue : agonicref05_Check.j1 (k + 2) (l.map cv) (i : Int) true = some 1 := by
      unfold agonicref05_Check.j1
      rw [if_pos rfl]
    simp only [chk]
    by_cases hp : 0 ≤ l[i].f0 ∧ l[i].f0 < 3600
    · rw [if_pos hp]
      rcases hj (!decide (-900 ≤ l[i].f1 ∧ l[i].f1 ≤ 900)) with e | e
      · rw [e]
        by_cases hq : -900 ≤ l[i].f1 ∧ l[i].f1 ≤ 900
        · rw [if_neg (by simp [hq]), if_neg (show ¬ ¬ (0 ≤ l[i].f0 ∧ l[i].f0 < 3600 ∧ -900 ≤ l[i].f1 ∧ l[i].f1 ≤ 900) from fun hn => hn ⟨hp.1, hp.2, hq.1, hq.2⟩)]
        · rw [if_pos (by simp only [Bool.not_eq_true', decide_eq_false_iff_not]; exact hq), if_pos (show ¬ (0 ≤ l[i].f0 ∧ l[i].f0 < 3600 ∧ -900 ≤ l[i].f1 ∧ l[i].f1 ≤ 900) from fun hn => hq ⟨hn.2.2.1, hn.2.2.2⟩)]
      · exact absurd (.inl hp.1) e
    · rw [if_neg hp, htrue, if_pos (show ¬ (0 ≤ l[i].f0 ∧ l[i].f0 < 3600 ∧ -900 ≤ l[i].f1 ∧ l[i].f1 ≤ 900) from fun hn => hp ⟨hn.1, hn.2.1⟩)]
theorem rCheck_f {l : List S55} {k : Nat} (hl : l.length < 1000000) (hk : 3 * l.length + 3 ≤ k) : agonicref05_Check.f k (l.map cv) = some (chkAll l) := by
  unfold agonicref05_Check.f chkAll
  rw [List.length_map]
  by_cases h1 : l.length = 0
  · rw [if_pos (by omega), if_pos h1]
  · rw [if_neg (by omega), if_neg h1]
    by_cases h2 : l.length > 36
    · rw [if_pos (by omega), if_pos h2]
    · rw [if_neg (by omega), if_neg h2]
      have := rcheck_l l.length l 0 k (-1) (by omega) hl hk (fun _ => rfl) (fun j hj => by omega)
      rw [List.drop_zero] at this
      exact this
end Go.Proofs.Ytccjefoejjnccaa.M
/- What is proved here: the deviation on a fraction is the exact one, of the program and of the reference. -/
namespace Go.Proofs.Ytccjefoejjnccaa.M
open Go.Proofs.Ytccjefoejjnccaa Go.RowKit Go.Proofs.Ytccjefoejjnccaa.C Go.Proofs.Ytccjefoejjnccaa.H Go.Proofs.YtccjefoejjnccaaW.PrintWords Go.Proofs.YtccjefoejjnccaaW.PrintLast Go.Proofs.YtccjefoejjnccaaW.PrintMore
set_option linter.unusedSimpArgs false
set_option linter.unusedVariables false
/-- Heading and deviation at the beginning of segment i; the end of the last one lies a turn behind the first point. -/
def hd (l : List S55) (i : Nat) : Int := if i < l.length then (l.getD i z55).f0 else (l.getD 0 z55).f0 + 3600
def dv (l : List S55) (i : Nat) : Int := if i < l.length then (l.getD i z55).f1 else (l.getD 0 z55).f1
structure Valid (l : List S55) : Prop where
  pos : 0 < l.length
  le : l.length ≤ 36
  hr : ∀ i, i < l.length → 0 ≤ hd l i ∧ hd l i < 3600
  dr : ∀ i, -900 ≤ dv l i ∧ dv l i ≤ 900
  mono : ∀ i j, i < j → j ≤ l.length → hd l i < hd l j
theorem Valid.last {l : List S55} (_ : Valid l) : hd l l.length = hd l 0 + 3600 ∧ dv l l.length = dv l 0 := by
  have := ‹Valid l›.pos
  unfold hd dv
  rw [if_neg (by omega), if_pos this, if_neg (by omega), if_pos this]
  exact ⟨rfl, rfl⟩
theorem Valid.mono' {l : List S55} (h : Valid l) {i j : Nat} (hij : i ≤ j) (hj : j ≤ l.length) : hd l i ≤ hd l j := by
  rcases Nat.lt_or_eq_of_le hij with h1 | rfl
  · exact Int.le_of_lt (h.mono i j h1 hj)
  · exact Int.le_refl _
def okP (p : S55) : Prop := 0 ≤ p.f0 ∧ p.f0 < 3600 ∧ -900 ≤ p.f1 ∧ p.f1 ≤ 900
theorem chk_iff : ∀ (l : List S55) (last : Int), chk last l = 0 ↔ (∀ p ∈ l, okP p ∧ last < p.f0) ∧ l.Pairwise (fun a b => a.f0 < b.f0)
  | [], last => by simp [chk]
  | p :: ps, last => by
    have ih := chk_iff ps p.f0
    rw [List.pairwise_cons]
    constructor
    · intro h
      simp only [chk] at h
      by_cases h1 : 0 ≤ p.f0 ∧ p.f0 < 3600 ∧ -900 ≤ p.f1 ∧ p.f1 ≤ 900
      · rw [if_neg (fun hn => hn h1)] at h
        by_cases h2 : p.f0 = last
        · rw [if_pos h2] at h; omega
        · rw [if_neg h2] at h
          by_cases h3 : p.f0 < last
          · rw [if_pos h3] at h; omega
          · rw [if_neg h3] at h
            obtain ⟨e1, e2⟩ := ih.1 h
            refine ⟨fun q hq => ?_, fun q hq => (e1 q hq).2, e2⟩
            rcases List.mem_cons.1 hq with rfl | hq
            · exact ⟨h1, by omega⟩
            · have := (e1 q hq).2
              exact ⟨(e1 q hq).1, by omega⟩
      · rw [if_pos h1] at h; omega
    · rintro ⟨e1, e2, e3⟩
      have hp := e1 p (by simp)
      simp only [chk]
      rw [if_neg (fun hn => hn hp.1), if_neg (by omega), if_neg (by omega)]
      exact ih.2 ⟨fun q hq => ⟨(e1 q (by simp [hq])).1, e2 q hq⟩, e3⟩
theorem getD_lt {l : List S55} {i : Nat} (h : i < l.length) : l.getD i z55 = l[i] := by
  rw [List.getD_eq_getElem?_getD, List.getElem?_eq_getElem h]; rfl
theorem valid_of_chk {l : List S55} (h : chkAll l = 0) : Valid l := by
  unfold chkAll at h
  by_cases h1 : l.length = 0
  · rw [if_pos h1] at h; omega
  · rw [if_neg h1] at h
    by_cases h2 : l.length > 36
    · rw [if_pos h2] at h; omega
    · rw [if_neg h2] at h
      obtain ⟨e1, e2⟩ := (chk_iff l (-1)).1 h
      have hr : ∀ i, i < l.length → 0 ≤ hd l i ∧ hd l i < 3600 := fun i hi => by
        unfold hd
        rw [if_pos hi, getD_lt hi]
        have := (e1 l[i] (List.getElem_mem hi)).1
        exact ⟨this.1, this.2.1⟩
      refine ⟨by omega, by omega, hr, fun i => ?_, fun i j hij hj => ?_⟩
      · unfold dv
        split
        · rename_i hi
          rw [getD_lt hi]
          exact ⟨(e1 _ (List.getElem_mem hi)).1.2.2.1, (e1 _ (List.getElem_mem hi)).1.2.2.2⟩
        · rw [getD_lt (by omega)]
          exact ⟨(e1 _ (List.getElem_mem (by omega))).1.2.2.1, (e1 _ (List.getElem_mem (by omega))).1.2.2.2⟩
      · rcases Nat.lt_or_eq_of_le hj with hj | rfl
        · have := List.pairwise_iff_getElem.1 e2 i j (by omega) hj hij
          unfold hd
          rw [if_pos (by omega), if_pos hj, getD_lt (by omega), getD_lt hj]
          exact this
        · have a := hr i hij
          have b := hr 0 (by omega)
          unfold hd at a b ⊢
          rw [if_pos (by omega)] at a b ⊢
          rw [if_neg (by omega)]
          omega
theorem seg_eq {l : List S55} (h : Valid l) {i : Nat} (hi : i < l.length) : seg l i = (⟨hd l i, dv l i⟩, ⟨hd l (i + 1), dv l (i + 1)⟩) := by
  have h0 := h.hr 0 h.pos
  have e0 : hd l 0 = (l.getD 0 z55).f0 := by unfold hd; rw [if_pos h.pos]
  unfold seg
  have r : ∀ j : Nat, rd_T55 l (j : Int) = l.getD j z55 := fun j => rfl
  have r0 : rd_T55 l 0 = l.getD 0 z55 := rfl
  have ea : rd_T55 l (i : Int) = ⟨hd l i, dv l i⟩ := by rw [r]; unfold hd dv; rw [if_pos hi, if_pos hi]
  rw [ea]
  by_cases hl : i + 1 = l.length
  · rw [if_pos hl, r0, w64 (by omega) (by omega)]
    unfold hd dv
    rw [if_neg (show ¬ i + 1 < l.length by omega), if_neg (show ¬ i + 1 < l.length by omega)]
  · rw [if_neg hl, show ((i : Int) + 1) = ((i + 1 : Nat) : Int) by omega, r]
    unfold hd dv
    rw [if_pos (show i + 1 < l.length by omega), if_pos (show i + 1 < l.length by omega)]
theorem segs_mem {l : List S55} {x : S55 × S55} (h : x ∈ segs l) : ∃ i, i < l.length ∧ x = seg l i := by
  obtain ⟨i, hi, rfl⟩ := List.mem_map.1 h
  exact ⟨i, List.mem_range.1 hi, rfl⟩
/-- The segment in which a fraction lies. -/
theorem find_seg {l : List S55} (h : Valid l) {N d : Int} (hd0 : 1 ≤ d) (h0 : hd l 0 * d ≤ N) : ∀ m, m ≤ l.length → N < hd l m * d → ∃ i, i < m ∧ hd l i * d ≤ N ∧ N < hd l (i + 1) * d
  | 0, _, h1 => by omega
  | m + 1, hm, h1 => by
    by_cases hc : N < hd l m * d
    · obtain ⟨i, hi, e⟩ := find_seg h hd0 h0 m (by omega) hc
      exact ⟨i, by omega, e⟩
    · exact ⟨m, by omega, by omega, h1⟩
theorem seg_first {l : List S55} (h : Valid l) {N d : Int} (hd0 : 1 ≤ d) {i : Nat} (hi : i < l.length) (h1 : hd l i * d ≤ N) (j : Nat) (hj : j < i) : ¬ N < hd l (j + 1) * d := by
  have := Int.mul_le_mul_of_nonneg_right (h.mono' (show j + 1 ≤ i by omega) (by omega)) (show 0 ≤ d by omega)
  omega
/-- The deviation on N / d in segment i: numerator and denominator, not reduced. -/
def devN (l : List S55) (i : Nat) (N d : Int) : Int := dv l i * ((hd l (i + 1) - hd l i) * d) + (N - hd l i * d) * (dv l (i + 1) - dv l i)
def devD (l : List S55) (i : Nat) (d : Int) : Int := (hd l (i + 1) - hd l i) * d
theorem Valid.len {l : List S55} (h : Valid l) {i : Nat} (hi : i < l.length) : 1 ≤ hd l (i + 1) - hd l i ∧ hd l (i + 1) - hd l i ≤ 3600 ∧ hd l i < 3600 ∧ hd l (i + 1) < 7200 ∧ 0 ≤ hd l i ∧ 0 ≤ hd l (i + 1) := by
  have h1 := h.mono i (i + 1) (by omega) (by omega)
  have h2 := h.hr i hi
  have h3 := h.last
  have h4 := h.mono' (show 0 ≤ i by omega) (show i ≤ l.length by omega)
  have h5 := h.mono' (show i + 1 ≤ l.length by omega) (Nat.le_refl _)
  have h6 := h.hr 0 h.pos
  omega
theorem prod_le {a b A B : Int} (h0 : 0 ≤ a) (h1 : a ≤ A) (h2 : 0 ≤ b) (h3 : b ≤ B) : 0 ≤ a * b ∧ a * b ≤ A * B :=
  ⟨Int.mul_nonneg h0 h2, Int.le_trans (Int.mul_le_mul_of_nonneg_right h1 h2) (Int.mul_le_mul_of_nonneg_left h3 (by omega))⟩
/-- The bounds of what is reckoned on a segment. -/
theorem devAt_f {l : List S55} (h : Valid l) {i : Nat} (hi : i < l.length) {k : Nat} (hk : 132 ≤ k) {N d : Int} (hd0 : 1 ≤ d) (hd1 : d ≤ 12960000) (hN0 : 0 ≤ N) (hN1 : N ≤ 7200 * d) :
    ∃ p q, devAt k N d (seg l i) = some (p, q) ∧ IsR p q (devN l i N d) (devD l i d) ∧ q ∣ devD l i d := by
  obtain ⟨b1, b2, b3, b4, b5, b6⟩ := h.len hi
  have c1 := h.dr i
  have c2 := h.dr (i + 1)
  have hL : devD l i d = (hd l (i + 1) - hd l i) * d := rfl
  have hP := prod_le (show 0 ≤ hd l (i + 1) - hd l i by omega) b2 (show 0 ≤ d by omega) hd1
  have hP1 : 1 ≤ (hd l (i + 1) - hd l i) * d := by
    have : 0 < (hd l (i + 1) - hd l i) * d := Int.mul_pos (by omega) (by omega)
    omega
  unfold devAt
  rw [seg_eq h hi]
  dsimp only
  rw [w64 (x := -hd l i) (by omega) (by omega), w64 (x := dv l (i + 1) - dv l i) (by omega) (by omega), w64 (x := hd l (i + 1) - hd l i) (by omega) (by omega)]
  obtain ⟨p1, q1, e1, r1, v1, l1, u1⟩ := plus1_f hk (a := N) (b := d) (c := -hd l i) (e := 1) (P := d) (A := 7200) (C := 7200) ⟨hd0, by omega, Int.dvd_refl _, Int.one_dvd _, hd0, by omega, by omega, by omega, by omega, by omega, by omega, by omega, by omega⟩
  rw [e1, Option.bind_some]
  dsimp only
  have hq1 : 1 ≤ q1 := r1.1
  have hq1d : q1 ≤ d := Int.le_of_dvd (by omega) v1
  have m1 := mul_bd (A := 14400 * 12960000) (B := 1800) (a := p1) (b := (dv l (i + 1) - dv l i).natAbs) (by omega) (by omega) (by omega) (by omega)
  have m1' : -(14400 * 12960000 * 1800) ≤ p1 * (dv l (i + 1) - dv l i) ∧ p1 * (dv l (i + 1) - dv l i) ≤ 14400 * 12960000 * 1800 := by
    rcases Int.natAbs_eq (dv l (i + 1) - dv l i) with e | e
    · rw [e]; exact ⟨by omega, by omega⟩
    · rw [e, Int.mul_neg]; exact ⟨by omega, by omega⟩
  have m2 := prod_le (show 0 ≤ q1 by omega) (show q1 ≤ 12960000 by omega) (show 0 ≤ hd l (i + 1) - hd l i by omega) b2
  have m3 : 0 < q1 * (hd l (i + 1) - hd l i) := Int.mul_pos (by omega) (by omega)
  rw [w64 (x := p1 * (dv l (i + 1) - dv l i)) (by omega) (by omega), w64 (x := q1 * (hd l (i + 1) - hd l i)) (by omega) (by omega)]
  obtain ⟨s1, s2, e2, r2, _⟩ := plain_f (k := k) (by omega) (n := p1 * (dv l (i + 1) - dv l i)) (d := q1 * (hd l (i + 1) - hd l i)) (by omega) (by omega) (by omega) (by omega) (by omega)
  rw [e2, Option.bind_some]
  dsimp only
  have v2 : s2 ∣ devD l i d := isR_dvd r2 (by rw [hL, Int.mul_comm q1]; exact Int.mul_dvd_mul_left _ v1)
  have hs2 : 1 ≤ s2 := r2.1
  have bs : -(25920000 * s2) ≤ s1 ∧ s1 ≤ 25920000 * s2 := by
    refine isR_bd r2 (by omega) ?_ ?_
    · have a1 : -(14400 * q1 * 1800) ≤ p1 * (dv l (i + 1) - dv l i) := by
        have := mul_bd (A := 14400 * q1) (B := 1800) (a := p1) (b := (dv l (i + 1) - dv l i).natAbs) (by omega) (by omega) (by omega) (by omega)
        rcases Int.natAbs_eq (dv l (i + 1) - dv l i) with e | e
        · rw [e]; omega
        · rw [e, Int.mul_neg]; omega
      have a2 : q1 * 1 ≤ q1 * (hd l (i + 1) - hd l i) := Int.mul_le_mul_of_nonneg_left b1 (by omega)
      omega
    · have a1 : p1 * (dv l (i + 1) - dv l i) ≤ 14400 * q1 * 1800 := by
        have := mul_bd (A := 14400 * q1) (B := 1800) (a := p1) (b := (dv l (i + 1) - dv l i).natAbs) (by omega) (by omega) (by omega) (by omega)
        rcases Int.natAbs_eq (dv l (i + 1) - dv l i) with e | e
        · rw [e]; omega
        · rw [e, Int.mul_neg]; omega
      have a2 : q1 * 1 ≤ q1 * (hd l (i + 1) - hd l i) := Int.mul_le_mul_of_nonneg_left b1 (by omega)
      omega
  obtain ⟨p, q, e3, r3, v3, _⟩ := plus1_f hk (a := dv l i) (b := 1) (c := s1) (e := s2) (P := devD l i d) (A := 900) (C := 25920000) ⟨by omega, hs2, Int.one_dvd _, v2, by rw [hL]; exact hP1, by rw [hL]; omega, by omega, by omega, bs.1, bs.2, by omega, by omega, by rw [hL]; omega⟩
  refine ⟨p, q, e3, isR_conv (by omega) r3 ?_, v3⟩
  -- (dv s2 + s1) / s2 is the deviation
  obtain ⟨_, _, f1⟩ := r1
  obtain ⟨_, _, f2⟩ := r2
  unfold devN devD
  generalize hd l (i + 1) - hd l i = L at *
  generalize dv l (i + 1) - dv l i = D at *
  generalize hd l i = H at *
  generalize dv l i = V at *
  have g1 : p1 * d = (N - H * d) * q1 := by rw [show p1 * (d * 1) = p1 * d by grind] at f1; rw [f1]; grind
  have g2 : s1 * (q1 * L) = p1 * D * s2 := f2
  -- s1 * L * d = (N - H d) D s2
  have g3 : s1 * (L * d) = (N - H * d) * D * s2 := by
    have hne : q1 ≠ 0 := by omega
    refine Int.eq_of_mul_eq_mul_left hne ?_
    have x1 : q1 * (s1 * (L * d)) = s1 * (q1 * L) * d := by grind
    have x2 : q1 * ((N - H * d) * D * s2) = (N - H * d) * q1 * D * s2 := by grind
    rw [x1, x2, g2, ← g1]; grind
  have x3 : (V * s2 + s1 * 1) * (L * d) = V * s2 * (L * d) + s1 * (L * d) := by grind
  rw [x3, g3]; grind
end Go.Proofs.Ytccjefoejjnccaa.M
/- What is proved here: the deviation on a fraction is the exact one, of the program and of the reference. -/
namespace Go.Proofs.Ytccjefoejjnccaa.M
open Go.Proofs.Ytccjefoejjnccaa Go.RowKit Go.Proofs.Ytccjefoejjnccaa.C Go.Proofs.Ytccjefoejjnccaa.H Go.Proofs.YtccjefoejjnccaaW.PrintWords Go.Proofs.YtccjefoejjnccaaW.PrintLast Go.Proofs.YtccjefoejjnccaaW.PrintMore
set_option linter.unusedSimpArgs false
set_option linter.unusedVariables false
theorem cmp3_neg (a b : Int) : (cmp3 a b < 0) = (a < b) := by
  unfold cmp3
  apply propext
  split
  · omega
  · split <;> omega
theorem segTest_f {l : List S55} (h : Valid l) {i : Nat} (hi : i < l.length) {N d : Int} (hd0 : 1 ≤ d) (hd1 : d ≤ 12960000) (hN0 : 0 ≤ N) (hN1 : N ≤ 7200 * d) : segTest N d (seg l i) = decide (N < hd l (i + 1) * d) := by
  obtain ⟨b1, b2, b3, b4, b5, b6⟩ := h.len hi
  have hP := prod_le b6 (show hd l (i + 1) ≤ 7200 by omega) (show 0 ≤ d by omega) hd1
  unfold segTest
  rw [seg_eq h hi]
  simp only [cmp3_neg]
  rw [w64 (by omega) (by omega), w64 (by omega) (by omega)]
/-- What the deviation of a fraction is. -/
structure DevIs (l : List S55) (N d p q : Int) (i : Nat) : Prop where
  hi : i < l.length
  lo : hd l i * d ≤ N
  hi' : N < hd l (i + 1) * d
  is : IsR p q (devN l i N d) (devD l i d)
theorem devD_pos {l : List S55} (h : Valid l) {i : Nat} (hi : i < l.length) {d : Int} (hd0 : 1 ≤ d) : 1 ≤ devD l i d := by
  obtain ⟨b1, b2, b3, b4, b5, b6⟩ := h.len hi
  have : 0 < (hd l (i + 1) - hd l i) * d := Int.mul_pos (by omega) (by omega)
  unfold devD
  omega
theorem DevIs.bd {l : List S55} (h : Valid l) {N d p q : Int} {i : Nat} (hd0 : 1 ≤ d) (hx : DevIs l N d p q i) : q ∣ devD l i d ∧ -(900 * q) ≤ p ∧ p ≤ 900 * q := by
  obtain ⟨hi, lo, hi', is⟩ := hx
  obtain ⟨b1, b2, b3, b4, b5, b6⟩ := h.len hi
  have c1 := h.dr i
  have c2 := h.dr (i + 1)
  have hD := devD_pos h hi hd0
  refine ⟨isR_dvd is (Int.dvd_refl _), ?_⟩
  -- a mean of both ends
  have e : devN l i N d = dv l i * (hd l (i + 1) * d - N) + dv l (i + 1) * (N - hd l i * d) := by unfold devN; grind
  have hs : devD l i d = (hd l (i + 1) * d - N) + (N - hd l i * d) := by unfold devD; grind
  have u0 : 0 ≤ hd l (i + 1) * d - N := by omega
  have v0 : 0 ≤ N - hd l i * d := by omega
  generalize hd l (i + 1) * d - N = u at *
  generalize N - hd l i * d = v at *
  have x1 := mul_bd c1.1 c1.2 u0 (Int.le_refl u)
  have x2 := mul_bd c2.1 c2.2 v0 (Int.le_refl v)
  exact isR_bd is hD (by rw [e, hs]; omega) (by rw [e, hs]; omega)
theorem devIn_f {l : List S55} (h : Valid l) {k : Nat} (hk : 132 ≤ k) {N d : Int} (hd0 : 1 ≤ d) (hd1 : d ≤ 12960000) (hN0 : hd l 0 * d ≤ N) (hN1 : N < hd l l.length * d) :
    ∃ p q i, devIn k l N d = some (p, q) ∧ DevIs l N d p q i := by
  obtain ⟨i, hi, lo, up⟩ := find_seg h hd0 hN0 l.length (Nat.le_refl _) hN1
  have h00 := (h.hr 0 h.pos).1
  have hl := h.last
  have h01 := (h.hr 0 h.pos).2
  have z0 : 0 ≤ N := by
    have : 0 ≤ hd l 0 * d := Int.mul_nonneg h00 (by omega)
    omega
  have z1 : N ≤ 7200 * d := by
    have : hd l l.length * d ≤ 7200 * d := Int.mul_le_mul_of_nonneg_right (by omega) (by omega)
    omega
  obtain ⟨p, q, e, r, _⟩ := devAt_f h hi hk hd0 hd1 z0 z1
  refine ⟨p, q, i, ?_, hi, lo, up, r⟩
  unfold devIn
  have hall : (segs l).all (fun x => (devAt k N d x).isSome) = true := by
    rw [List.all_eq_true]
    intro x hx
    obtain ⟨j, hj, rfl⟩ := segs_mem hx
    obtain ⟨p, q, e, _⟩ := devAt_f h hj hk hd0 hd1 z0 z1
    rw [e]; rfl
  rw [if_pos hall]
  have hf : (segs l).find? (segTest N d) = some (seg l i) := by
    unfold segs
    rw [List.find?_map, (List.find?_range_eq_some (i := i)).2 ⟨?_, ?_, ?_⟩]
    · rfl
    · show segTest N d (seg l i) = true
      rw [segTest_f h hi hd0 hd1 z0 z1]
      exact decide_eq_true up
    · exact List.mem_range.2 hi
    · intro j hj
      show (!segTest N d (seg l j)) = true
      rw [segTest_f h (by omega) hd0 hd1 z0 z1, decide_eq_false (seg_first h hd0 hi lo j hj)]
      rfl
  rw [hf]
  exact e
/-- A fraction of a turn, a turn later where it lies before the first point. -/
def inTurn (l : List S55) (N d : Int) : Int := if N < hd l 0 * d then N + 3600 * d else N
theorem inTurn_lo {l : List S55} (h : Valid l) {N d : Int} (hd0 : 1 ≤ d) (hN0 : 0 ≤ N) (hN1 : N < 3600 * d) : hd l 0 * d ≤ inTurn l N d ∧ inTurn l N d < hd l l.length * d := by
  have h0 := h.hr 0 h.pos
  have hl := h.last.1
  have e : hd l l.length * d = hd l 0 * d + 3600 * d := by rw [hl]; grind
  have h1 : 0 ≤ hd l 0 * d := Int.mul_nonneg h0.1 (by omega)
  have h2 : hd l 0 * d ≤ 3600 * d := Int.mul_le_mul_of_nonneg_right (by omega) (by omega)
  unfold inTurn
  split <;> omega
theorem dev_f {l : List S55} (h : Valid l) {k : Nat} (hk : 132 ≤ k) {N d : Int} (hd0 : 1 ≤ d) (hd1 : d ≤ 12960000) (hN0 : 0 ≤ N) (hN1 : N < 3600 * d) :
    ∃ p q i, card_Card_deviation.f k l N d = some (p, q) ∧ DevIs l (inTurn l N d) d p q i := by
  have h0 := h.hr 0 h.pos
  have hle := h.le
  have hp := h.pos
  have hl := h.last.1
  have hP := prod_le h0.1 (show hd l 0 ≤ 3600 by omega) (show 0 ≤ d by omega) hd1
  have hrd : (rd_T55 l 0).f0 = hd l 0 := by unfold hd; rw [if_pos h.pos]; rfl
  have hlo := inTurn_lo h hd0 hN0 hN1
  unfold card_Card_deviation.f
  rw [if_pos ⟨h.pos, by omega⟩, hrd]
  simp only [cmp3_neg]
  rw [w64 (x := N) (by omega) (by omega), w64 (x := hd l 0 * d) (by omega) (by omega)]
  by_cases hc : N < hd l 0 * d
  · rw [if_pos hc]
    obtain ⟨p1, q1, e1, r1, v1, l1, u1⟩ := plus1_f hk (a := N) (b := d) (c := 3600) (e := 1) (P := d) (A := 3600) (C := 3600) ⟨hd0, by omega, Int.dvd_refl _, Int.one_dvd _, hd0, by omega, by omega, by omega, by omega, by omega, by omega, by omega, by omega⟩
    rw [e1, Option.bind_some]
    have hit : inTurn l N d = N + 3600 * d := by unfold inTurn; rw [if_pos hc]
    rw [hit] at hlo ⊢
    have r1' : IsR p1 q1 (N + 3600 * d) d := by
      have : N * 1 + 3600 * d = N + 3600 * d := by omega
      rw [this, Int.mul_one] at r1; exact r1
    have hq1 := r1.1
    have hq1d : q1 ≤ d := Int.le_of_dvd (by omega) v1
    have t1 := isR_lt r1' hd0
    obtain ⟨p, q, i, e, hi, lo, up, is⟩ := devIn_f h hk (N := p1) (d := q1) hq1 (by omega) (by have := t1 (hd l 0); omega) ((t1 _).2 hlo.2)
    refine ⟨p, q, i, e, hi, (by have := t1 (hd l i); omega), (t1 _).1 up, isR_conv (by have := devD_pos h hi hq1; omega) is ?_⟩
    obtain ⟨_, _, f1⟩ := r1'
    have g : devN l i p1 q1 * d = devN l i (N + 3600 * d) d * q1 := by
      unfold devN
      generalize hd l (i + 1) - hd l i = L at *
      generalize dv l (i + 1) - dv l i = D at *
      have e1 : (dv l i * (L * q1) + (p1 - hd l i * q1) * D) * d = dv l i * (L * q1) * d + (p1 * d - hd l i * q1 * d) * D := by grind
      rw [e1, f1]; grind
    unfold devD
    have e2 : devN l i p1 q1 * ((hd l (i + 1) - hd l i) * d) = devN l i p1 q1 * d * (hd l (i + 1) - hd l i) := by grind
    rw [e2, g]; grind
  · rw [if_neg hc]
    have hit : inTurn l N d = N := by unfold inTurn; rw [if_neg hc]
    rw [hit] at hlo ⊢
    exact devIn_f h hk hd0 hd1 hlo.1 hlo.2
theorem DevIs.same {l : List S55} (h : Valid l) {N d p q p' q' : Int} {i j : Nat} (hd0 : 1 ≤ d) (hx : DevIs l N d p q i) (hy : DevIs l N d p' q' j) : p = p' ∧ q = q' ∧ i = j := by
  have hij : i = j := by
    rcases Nat.lt_trichotomy i j with h1 | h1 | h1
    · exact absurd hx.hi' (seg_first h hd0 hy.hi hy.lo i h1)
    · exact h1
    · exact absurd hy.hi' (seg_first h hd0 hx.hi hx.lo j h1)
  subst hij
  obtain ⟨e1, e2⟩ := isR_unique (by have := devD_pos h hx.hi hd0; omega) hx.is hy.is
  exact ⟨e1, e2, rfl⟩
-- the reference
theorem rseg_f {l : List S55} (h : Valid l) {i : Nat} (hi : i < l.length) : agonicref05_segment.f (l.map cv) (i : Int) = some (hd l i, dv l i, hd l (i + 1), dv l (i + 1)) := by
  have h0 := h.hr 0 h.pos
  have hp := h.pos
  have hle := h.le
  have e0 : hd l 0 = (l.getD 0 z55).f0 := by unfold hd; rw [if_pos h.pos]
  have e1 : hd l i = l[i].f0 := by unfold hd; rw [if_pos hi, getD_lt hi]
  have e2 : dv l i = l[i].f1 := by unfold dv; rw [if_pos hi, getD_lt hi]
  unfold agonicref05_segment.f
  rw [List.length_map, w64 (by omega) (by omega), rd_cv hi]
  by_cases hl : i + 1 < l.length
  · have e3 : hd l (i + 1) = l[i + 1].f0 := by unfold hd; rw [if_pos hl, getD_lt hl]
    have e4 : dv l (i + 1) = l[i + 1].f1 := by unfold dv; rw [if_pos hl, getD_lt hl]
    rw [if_pos (by omega), if_pos (by omega), if_pos (by omega), if_pos (by omega), show ((i : Int) + 1) = ((i + 1 : Nat) : Int) by omega, rd_cv hl, e1, e2, e3, e4]
    rfl
  · have er : rd_T54 (l.map cv) 0 = cv l[0] := rd_cv (i := 0) (by omega)
    have e5 : hd l (i + 1) = l[0].f0 + 3600 := by unfold hd; rw [if_neg hl, getD_lt (by omega)]
    have e6 : dv l (i + 1) = l[0].f1 := by unfold dv; rw [if_neg hl, getD_lt (by omega)]
    have e7 : hd l 0 = l[0].f0 := by rw [e0, getD_lt (by omega)]
    rw [if_neg (by omega), if_pos (by omega), if_pos (by omega), if_pos (by omega), er, e1, e2, e5, e6]
    show some (l[i].f0, l[i].f1, wrap64 (l[0].f0 + 3600), l[0].f1) = _
    rw [w64 (by omega) (by omega)]
theorem whole_f (a : Int) : agonicref05_whole.f a = some (a, 1) := rfl
theorem rdev_l {l : List S55} (h : Valid l) {N d : Int} (hd0 : 1 ≤ d) (hd1 : d ≤ 12960000) (hlo : hd l 0 * d ≤ N) (hup : N < hd l l.length * d) {j : Nat} (hj : j < l.length) (jlo : hd l j * d ≤ N) (jup : N < hd l (j + 1) * d) :
    ∀ (n : Nat) (i : Nat) (k : Nat), i + n = j → 2 * n + 140 ≤ k → ∃ p q, agonicref05_deviation.l0 k (l.map cv) (i : Int) N d = some (p, q) ∧ DevIs l N d p q j := by
  have h00 := (h.hr 0 h.pos).1
  have hl := h.last
  have h01 := (h.hr 0 h.pos).2
  have hle := h.le
  have z0 : 0 ≤ N := by
    have : 0 ≤ hd l 0 * d := Int.mul_nonneg h00 (by omega)
    omega
  have z1 : N ≤ 7200 * d := by
    have : hd l l.length * d ≤ 7200 * d := Int.mul_le_mul_of_nonneg_right (by omega) (by omega)
    omega
  have less : ∀ i, i ≤ l.length → agonicref01_Less.f N d (hd l i) 1 = some (decide (N < hd l i * d)) := by
    intro i hi
    have h1 := h.mono' (show 0 ≤ i by omega) hi
    have h2 := h.mono' hi (Nat.le_refl _)
    have hP := prod_le (show 0 ≤ hd l i by omega) (show hd l i ≤ 7200 by omega) (show 0 ≤ d by omega) hd1
    rw [less_f (by omega) (by omega) (by omega) (by omega), Int.mul_one]
  intro n
  induction n with
  | zero =>
    intro i k hi hk
    obtain rfl : i = j := by omega
    obtain ⟨k, rfl⟩ : ∃ k', k = k' + 2 := ⟨k - 2, by omega⟩
    obtain ⟨b1, b2, b3, b4, b5, b6⟩ := h.len hj
    have c1 := h.dr i
    have c2 := h.dr (i + 1)
    unfold agonicref05_deviation.l0
    rw [List.length_map, if_pos (by omega), rseg_f h hj, Option.bind_some, whole_f, Option.bind_some]
    dsimp only
    rw [less i (by omega), Option.bind_some, if_neg (by simp only [decide_eq_true_eq]; omega), whole_f, Option.bind_some]
    dsimp only
    rw [less (i + 1) (by omega), Option.bind_some, decide_eq_true jup]
    unfold agonicref05_deviation.j2
    have hL : devD l i d = (hd l (i + 1) - hd l i) * d := rfl
    have hP := prod_le (show 0 ≤ hd l (i + 1) - hd l i by omega) b2 (show 0 ≤ d by omega) hd1
    have hD := devD_pos h hj hd0
    have hH := prod_le b5 (show hd l i ≤ 3600 by omega) (show 0 ≤ d by omega) hd1
    have m1 : -(1800 * ((hd l (i + 1) - hd l i) * d)) ≤ (dv l (i + 1) - dv l i) * (N - hd l i * d) ∧ (dv l (i + 1) - dv l i) * (N - hd l i * d) ≤ 1800 * ((hd l (i + 1) - hd l i) * d) := by
      refine mul_bd (by omega) (by omega) (by omega) ?_
      have : (hd l (i + 1) - hd l i) * d = hd l (i + 1) * d - hd l i * d := by grind
      omega
    rw [if_neg (by decide), w64 (x := dv l (i + 1) - dv l i) (by omega) (by omega), w64 (x := hd l i * d) (by omega) (by omega), w64 (x := N - hd l i * d) (by omega) (by omega), w64 (x := hd l (i + 1) - hd l i) (by omega) (by omega), w64 (x := (hd l (i + 1) - hd l i) * d) (by omega) (by omega), w64 (x := (dv l (i + 1) - dv l i) * (N - hd l i * d)) (by omega) (by omega), ref_red]
    obtain ⟨s1, s2, e2, r2, _⟩ := plain_f (k := k) (by omega) (n := (dv l (i + 1) - dv l i) * (N - hd l i * d)) (d := (hd l (i + 1) - hd l i) * d) (by omega) (by omega) (by omega) (by omega) (by omega)
    rw [e2, Option.bind_some, whole_f, Option.bind_some]
    have bs := isR_bd (A := 1800) r2 (by omega) m1.1 m1.2
    obtain ⟨p, q, e3, r3, v3, _⟩ := ref_plus (k := k) (by omega) (a := dv l i) (b := 1) (c := s1) (e := s2) (P := devD l i d) (A := 900) (C := 1800) ⟨by omega, r2.1, Int.one_dvd _, isR_dvd r2 (Int.dvd_refl _), hD, by omega, by omega, by omega, bs.1, bs.2, by omega, by omega, by omega⟩
    dsimp only
    rw [e3, Option.bind_some]
    refine ⟨p, q, rfl, hj, jlo, jup, isR_conv (by have := r2.1; omega) r3 ?_⟩
    obtain ⟨_, _, f2⟩ := r2
    unfold devN devD
    have x3 : (dv l i * s2 + s1 * 1) * ((hd l (i + 1) - hd l i) * d) = dv l i * s2 * ((hd l (i + 1) - hd l i) * d) + s1 * ((hd l (i + 1) - hd l i) * d) := by grind
    rw [x3, f2]; grind
  | succ n ih =>
    intro i k hi hk
    obtain ⟨k, rfl⟩ : ∃ k', k = k' + 2 := ⟨k - 2, by omega⟩
    obtain ⟨p, q, e, r⟩ := ih (i + 1) k (by omega) (by omega)
    refine ⟨p, q, ?_, r⟩
    unfold agonicref05_deviation.l0
    rw [List.length_map, if_pos (by omega), rseg_f h (by omega), Option.bind_some, whole_f, Option.bind_some]
    dsimp only
    rw [less i (by omega), Option.bind_some]
    have hij := Int.mul_le_mul_of_nonneg_right (h.mono' (show i ≤ j by omega) (by omega)) (show 0 ≤ d by omega)
    have hij' := Int.mul_le_mul_of_nonneg_right (h.mono' (show i + 1 ≤ j by omega) (by omega)) (show 0 ≤ d by omega)
    rw [if_neg (by simp only [decide_eq_true_eq]; omega), whole_f, Option.bind_some]
    dsimp only
    rw [less (i + 1) (by omega), Option.bind_some, decide_eq_false (by omega)]
    unfold agonicref05_deviation.j2
    rw [if_pos (by decide), w64 (by omega) (by omega)]
    exact e
theorem rdev_f {l : List S55} (h : Valid l) {k : Nat} (hk : 220 ≤ k) {N d : Int} (hd0 : 1 ≤ d) (hd1 : d ≤ 12960000) (hN0 : 0 ≤ N) (hN1 : N < 3600 * d) :
    ∃ p q i, agonicref05_deviation.f k (l.map cv) N d = some (p, q) ∧ DevIs l (inTurn l N d) d p q i := by
  have h0 := h.hr 0 h.pos
  have hp := h.pos
  have hle := h.le
  have hP := prod_le h0.1 (show hd l 0 ≤ 3600 by omega) (show 0 ≤ d by omega) hd1
  have hlo := inTurn_lo h hd0 hN0 hN1
  obtain ⟨i, hi, lo, up⟩ := find_seg h hd0 hlo.1 l.length (Nat.le_refl _) hlo.2
  obtain ⟨k, rfl⟩ : ∃ k', k = k' + 1 := ⟨k - 1, by omega⟩
  obtain ⟨p, q, e, r⟩ := rdev_l h hd0 hd1 hlo.1 hlo.2 hi lo up i 0 k (by omega) (by omega)
  refine ⟨p, q, i, ?_, r⟩
  unfold agonicref05_deviation.f
  have er : (rd_T54 (l.map cv) 0).f0 = hd l 0 := by
    rw [show (0 : Int) = ((0 : Nat) : Int) from rfl, rd_cv hp]
    unfold hd; rw [if_pos hp, getD_lt hp]; rfl
  have e' : agonicref05_deviation.j0 (k + 1) (l.map cv) (inTurn l N d) d = some (p, q) := by
    unfold agonicref05_deviation.j0; exact e
  rw [List.length_map, if_pos (by omega), er, whole_f, Option.bind_some]
  dsimp only
  rw [less_f (by omega) (by omega) (by omega) (by omega), Option.bind_some, Int.mul_one]
  unfold inTurn at e'
  by_cases hc : N < hd l 0 * d
  · rw [if_pos hc] at e'
    rw [if_pos (decide_eq_true hc), w64 (x := 3600 * d) (by omega) (by omega), w64 (by omega) (by omega)]
    exact e'
  · rw [if_neg hc] at e'
    rw [if_neg (by simpa using hc)]
    exact e'
/-- The program and the reference tell the same deviation. -/
theorem dev_same {l : List S55} (h : Valid l) {k : Nat} (hk : 220 ≤ k) {N d : Int} (hd0 : 1 ≤ d) (hd1 : d ≤ 12960000) (hN0 : 0 ≤ N) (hN1 : N < 3600 * d) :
    ∃ p q i, card_Card_deviation.f k l N d = some (p, q) ∧ agonicref05_deviation.f k (l.map cv) N d = some (p, q) ∧ DevIs l (inTurn l N d) d p q i := by
  obtain ⟨p, q, i, e, r⟩ := dev_f h (k := k) (by omega) hd0 hd1 hN0 hN1
  obtain ⟨p', q', i', e', r'⟩ := rdev_f h hk hd0 hd1 hN0 hN1
  obtain ⟨rfl, rfl, rfl⟩ := DevIs.same h hd0 r r'
  exact ⟨p, q, i, e, e', r⟩
end Go.Proofs.Ytccjefoejjnccaa.M
/- What is proved here: cards are checked, deviations and folds are told alike by the program and the reference. -/
namespace Go.Proofs.Ytccjefoejjnccaa.M
open Go.Proofs.Ytccjefoejjnccaa Go.RowKit Go.Proofs.Ytccjefoejjnccaa.C Go.Proofs.Ytccjefoejjnccaa.H Go.Proofs.YtccjefoejjnccaaW.PrintWords Go.Proofs.YtccjefoejjnccaaW.PrintLast Go.Proofs.YtccjefoejjnccaaW.PrintMore
set_option linter.unusedSimpArgs false
set_option linter.unusedVariables false
/-- The magnetic course at the beginning of segment i. -/
def cr (l : List S55) (i : Nat) : Int := hd l i + dv l i
theorem Valid.cr_bd {l : List S55} (h : Valid l) {i : Nat} (hi : i ≤ l.length) : -900 ≤ cr l i ∧ cr l i < 8100 := by
  have h1 := h.mono' (show 0 ≤ i by omega) hi
  have h2 := h.mono' hi (Nat.le_refl _)
  have h3 := h.hr 0 h.pos
  have h4 := h.last.1
  have h5 := h.dr i
  unfold cr
  omega
theorem foldsAt_f {l : List S55} (h : Valid l) {i : Nat} (hi : i < l.length) : foldsAt (seg l i) = decide (cr l (i + 1) ≤ cr l i) := by
  have h1 := h.cr_bd (show i ≤ l.length by omega)
  have h2 := h.cr_bd (show i + 1 ≤ l.length by omega)
  unfold cr at h1 h2 ⊢
  unfold foldsAt
  rw [seg_eq h hi]
  dsimp only
  rw [w64 (by omega) (by omega), w64 (by omega) (by omega)]
theorem folds_f {l : List S55} (h : Valid l) : card_Card_folds.f l = some (foldIdx (segs l) 0) := by
  have := h.le
  unfold card_Card_folds.f
  rw [if_pos (by omega)]
theorem rise_f {l : List S55} (h : Valid l) {i : Nat} (hi : i < l.length) : agonicref05_rise.f (l.map cv) (i : Int) = some (cr l (i + 1) - cr l i) := by
  obtain ⟨b1, b2, b3, b4, b5, b6⟩ := h.len hi
  have c1 := h.dr i
  have c2 := h.dr (i + 1)
  unfold agonicref05_rise.f
  rw [rseg_f h hi, Option.bind_some]
  dsimp only
  rw [w64 (x := hd l (i + 1) - hd l i) (by omega) (by omega), w64 (x := hd l (i + 1) - hd l i + dv l (i + 1)) (by omega) (by omega), w64 (by omega) (by omega)]
  unfold cr
  congr 1
  omega
theorem rfolds_l {l : List S55} (h : Valid l) : ∀ (n : Nat) (i : Nat) (k : Nat), i + n = l.length → n + 1 ≤ k → agonicref05_Folds.l0 k (l.map cv) (foldIdx (upto l i) 0) (i : Int) = some (foldIdx (segs l) 0, 0)
  | 0, i, k, hi, hk => by
    obtain ⟨k, rfl⟩ : ∃ k', k = k' + 1 := ⟨k - 1, by omega⟩
    obtain rfl : i = l.length := by omega
    unfold agonicref05_Folds.l0
    rw [List.length_map, if_neg (by omega), upto_all]
  | n + 1, i, k, hi, hk => by
    obtain ⟨k, rfl⟩ : ∃ k', k = k' + 1 := ⟨k - 1, by omega⟩
    have hle := h.le
    have ih := rfolds_l h n (i + 1) k (by omega) (by omega)
    have hlen := foldIdx_length (upto l i) 0
    rw [upto_length] at hlen
    unfold agonicref05_Folds.l0
    rw [List.length_map, if_pos (by omega), rise_f h (by omega), Option.bind_some, w64 (by omega) (by omega), show ((i : Int) + 1) = ((i + 1 : Nat) : Int) by omega]
    have hs : foldIdx (upto l (i + 1)) 0 = foldIdx (upto l i) 0 ++ if cr l (i + 1) ≤ cr l i then [(i : Int)] else [] := by
      rw [upto_succ, foldIdx_snoc, foldsAt_f h (by omega), upto_length]
      simp
    rw [hs] at ih
    by_cases hc : cr l (i + 1) ≤ cr l i
    · rw [if_pos hc] at ih
      rw [if_pos (by omega), if_pos (by omega)]
      exact ih
    · rw [if_neg hc, List.append_nil] at ih
      rw [if_neg (by omega)]
      exact ih
theorem rFolds_f {l : List S55} {k : Nat} (hl : l.length < 1000000) (hk : 3 * l.length + 3 ≤ k) : agonicref05_Folds.f k (l.map cv) = some (if chkAll l = 0 then (foldIdx (segs l) 0, 0) else ([], chkAll l)) := by
  unfold agonicref05_Folds.f
  rw [rCheck_f hl hk, Option.bind_some]
  by_cases h : chkAll l = 0
  · rw [if_pos h, if_pos h]
    have hv := valid_of_chk h
    exact rfolds_l hv l.length 0 k (by omega) (by omega)
  · rw [if_neg h, if_neg h]
end Go.Proofs.Ytccjefoejjnccaa.M
/- What is proved here: how many compass courses there are; allowances are told alike by the program and the reference. -/
namespace Go.Proofs.Ytccjefoejjnccaa.M
open Go.Proofs.Ytccjefoejjnccaa Go.RowKit Go.Proofs.Ytccjefoejjnccaa.C Go.Proofs.Ytccjefoejjnccaa.H Go.Proofs.YtccjefoejjnccaaW.PrintWords Go.Proofs.YtccjefoejjnccaaW.PrintLast Go.Proofs.YtccjefoejjnccaaW.PrintMore
set_option linter.unusedSimpArgs false
set_option linter.unusedVariables false
theorem cr_last {l : List S55} (h : Valid l) : cr l l.length = cr l 0 + 3600 := by
  obtain ⟨a, b⟩ := h.last
  unfold cr
  omega
theorem foldIdx_nil : ∀ (xs : List (S55 × S55)) (i : Int), foldIdx xs i = [] ↔ ∀ x ∈ xs, foldsAt x = false
  | [], i => by simp [foldIdx]
  | x :: xs, i => by
    simp only [foldIdx]
    rcases hb : foldsAt x with _ | _
    · rw [if_neg (by decide), foldIdx_nil xs]
      simp [hb]
    · rw [if_pos rfl]
      simp [hb]
theorem no_folds {l : List S55} (h : Valid l) : foldIdx (segs l) 0 = [] ↔ ∀ i, i < l.length → cr l i < cr l (i + 1) := by
  rw [foldIdx_nil]
  constructor
  · intro hx i hi
    have := hx (seg l i) (List.mem_map.2 ⟨i, List.mem_range.2 hi, rfl⟩)
    rw [foldsAt_f h hi, decide_eq_false_iff_not] at this
    omega
  · intro hx x hm
    obtain ⟨i, hi, rfl⟩ := segs_mem hm
    rw [foldsAt_f h hi, decide_eq_false_iff_not]
    have := hx i hi
    omega
end Go.Proofs.Ytccjefoejjnccaa.M
/- What is proved here: the card that leads back is told alike by the program and the reference. -/
namespace Go.Proofs.Ytccjefoejjnccaa.M
open Go.Proofs.Ytccjefoejjnccaa Go.RowKit Go.Proofs.Ytccjefoejjnccaa.C Go.Proofs.Ytccjefoejjnccaa.H Go.Proofs.YtccjefoejjnccaaW.PrintWords Go.Proofs.YtccjefoejjnccaaW.PrintLast Go.Proofs.YtccjefoejjnccaaW.PrintMore
set_option linter.unusedSimpArgs false
set_option linter.unusedVariables false
/-- A point of the card that leads back, not yet sorted. -/
def invP (p : S55) : S55 := ⟨(p.f0 + p.f1) % 3600, -p.f1⟩
theorem inv_l {l : List S55} (h : Valid l) : ∀ (n i k : Nat), i + n = l.length → n + 1 ≤ k → card_Inverse.l0 k ((l.take i).map invP) l (l.length : Int) (i : Int) = if okPs (l.map invP) = true then some ((l.map invP).mergeSort (fun x y => !ltP y x), 0) else none
  | 0, i, k, hi, hk => by
    obtain ⟨k, rfl⟩ : ∃ k', k = k' + 1 := ⟨k - 1, by omega⟩
    simp only [card_Inverse.l0]
    rw [if_neg (by omega), List.take_of_length_le (by omega)]
  | n + 1, i, k, hi, hk => by
    obtain ⟨k, rfl⟩ : ∃ k', k = k' + 1 := ⟨k - 1, by omega⟩
    have hi' : i < l.length := by omega
    have hle := h.le
    have ih := inv_l h n (i + 1) k (by omega) (by omega)
    have e : (l.take i).map invP ++ [invP l[i]] = (l.take (i + 1)).map invP := by rw [List.take_succ_eq_append_getElem hi', List.map_append]; rfl
    rw [← e] at ih
    have hr := h.hr i hi'
    have hd1 := h.dr i
    unfold hd at hr; unfold dv at hd1
    rw [if_pos hi', getD_lt hi'] at hr hd1
    simp only [card_Inverse.l0]
    rw [if_pos (by omega), if_pos (by omega), if_pos (by omega), rd_get hi', course_f _ _ (by omega) (by omega) (by omega) (by omega), Option.bind_some]
    have ew : card_whole.f (l[i].f0 + l[i].f1) = some (l[i].f0 + l[i].f1, 1) := rfl
    rw [ew, Option.bind_some]
    dsimp only
    rw [around_f (by omega) (by omega) (by omega) (by omega), Option.bind_some, Int.mul_one, w64 (x := -l[i].f1) (by omega) (by omega), w64 (by omega) (by omega)]
    show (if ((l.take i).map invP).length < 8796093022208 then _ else _) = _
    rw [if_pos (by simp; omega)]
    exact ih
theorem inv_distinct {l : List S55} (h : Valid l) (hr : ∀ i, i < l.length → cr l i < cr l (i + 1)) : (l.map invP).Pairwise (fun x y => x.f0 ≠ y.f0) := by
  have hmono : ∀ n i, i + n ≤ l.length → cr l i ≤ cr l (i + n) := by
    intro n
    induction n with
    | zero => intro i _; exact Int.le_refl _
    | succ n ih =>
      intro i hi
      have a := ih i (by omega)
      have b := hr (i + n) (by omega)
      have e : i + (n + 1) = i + n + 1 := by omega
      rw [e]; omega
  rw [List.pairwise_map, List.pairwise_iff_getElem]
  intro i j hi hj hij
  have e : ∀ t (ht : t < l.length), (invP l[t]).f0 = cr l t % 3600 := by
    intro t ht
    unfold cr hd dv
    rw [if_pos ht, if_pos ht, getD_lt ht]
    rfl
  rw [e i hi, e j hj]
  have a := hr i hi
  have b := hmono (j - (i + 1)) (i + 1) (by omega)
  have c := hmono i 0 (by omega)
  have d := hr j hj
  have f := hmono (l.length - (j + 1)) (j + 1) (by omega)
  have g := cr_last h
  rw [show i + 1 + (j - (i + 1)) = j by omega] at b
  rw [Nat.zero_add] at c
  rw [show j + 1 + (l.length - (j + 1)) = l.length by omega] at f
  omega
def leP (a b : S54) : Prop := a.f0 ≤ b.f0
theorem rd54_at {a b : List S54} {x : S54} : rd_T54 (a ++ x :: b) (a.length : Int) = x := by
  unfold rd_T54
  rw [List.getD_eq_getElem?_getD, Int.toNat_natCast, List.getElem?_append_right (Nat.le_refl _), Nat.sub_self]
  rfl
/-- The reference's insertion. -/
theorem insP_l {x0 : List S54} {x7 : Int} {z : S54} : ∀ (n : Nat) (a b : List S54) (k : Nat), a.length = n → n + b.length < 1000000 → n + 1 ≤ k →
    a.Pairwise leP → b.Pairwise leP → (∀ p ∈ a, ∀ q ∈ b, leP p q) → (∀ q ∈ b, leP z q) →
    ∃ (ys : List S54) (k' : Nat), k ≤ k' + n + 1 ∧ k' < k ∧ agonicref05_Inverse.l1 k x0 (a ++ z :: b) x7 (n : Int) = agonicref05_Inverse.l0 k' x0 ys (wrap64 (x7 + 1)) ∧ ys.Perm (a ++ z :: b) ∧ ys.Pairwise leP
  | 0, a, b, k, ha, hl, hk, sa, sb, hab, hzb => by
    obtain ⟨k, rfl⟩ : ∃ k', k = k' + 1 := ⟨k - 1, by omega⟩
    obtain rfl : a = [] := List.eq_nil_of_length_eq_zero ha
    refine ⟨[] ++ z :: b, k, by omega, by omega, ?_, List.Perm.refl _, ?_⟩
    · simp only [agonicref05_Inverse.l1]
      rw [if_neg (by decide)]
    · rw [List.nil_append, List.pairwise_cons]
      exact ⟨hzb, sb⟩
  | n + 1, a, b, k, ha, hl, hk, sa, sb, hab, hzb => by
    obtain ⟨k, rfl⟩ : ∃ k', k = k' + 1 := ⟨k - 1, by omega⟩
    obtain ⟨a', y, rfl⟩ : ∃ a' y, a = a' ++ [y] := by
      rcases List.eq_nil_or_concat a with rfl | ⟨a', y, e⟩
      · simp at ha
      · exact ⟨a', y, by rw [e, List.concat_eq_append]⟩
    have ha' : a'.length = n := by simpa using ha
    have r1 : rd_T54 ((a' ++ [y]) ++ z :: b) ((n + 1 : Nat) : Int) = z := by
      have := rd54_at (a := a' ++ [y]) (b := b) (x := z)
      rwa [List.length_append, List.length_singleton, ha'] at this
    have r2 : rd_T54 ((a' ++ [y]) ++ z :: b) (n : Int) = y := by
      rw [List.append_assoc, ← ha']
      exact rd54_at
    have hlen : ((a' ++ [y]) ++ z :: b).length = n + 2 + b.length := by simp; omega
    have ew : wrap64 (((n + 1 : Nat) : Int) - 1) = (n : Int) := by rw [w64 (by omega) (by omega)]; omega
    have hstep : agonicref05_Inverse.l1 (k + 1) x0 ((a' ++ [y]) ++ z :: b) x7 ((n + 1 : Nat) : Int) =
        if z.f0 < y.f0 then agonicref05_Inverse.l1 k x0 (a' ++ z :: (y :: b)) x7 (n : Int) else agonicref05_Inverse.l0 k x0 ((a' ++ [y]) ++ z :: b) (wrap64 (x7 + 1)) := by
      conv => lhs; simp only [agonicref05_Inverse.l1]
      rw [if_pos (by omega), if_pos (by omega), if_pos (by omega), ew, if_pos (by omega), if_pos (by omega), r1, r2]
      have hset : (((a' ++ [y]) ++ z :: b).set (((n + 1 : Nat) : Int).toNat) (⟨y.f0, y.f1⟩ : S54)).set ((n : Int).toNat) (⟨z.f0, z.f1⟩ : S54) = a' ++ z :: (y :: b) := by
        rw [Int.toNat_natCast, Int.toNat_natCast, List.append_assoc, List.set_append_right _ _ (by omega), List.set_append_right _ _ (by omega), ha']
        have e1 : n + 1 - n = 1 := by omega
        rw [e1, Nat.sub_self]
        rfl
      rw [hset]
    rw [hstep]
    rw [List.pairwise_append] at sa
    by_cases hc : z.f0 < y.f0
    · rw [if_pos hc]
      have hzy : leP z y := Int.le_of_lt hc
      obtain ⟨ys, k', k1, k2, e, hp, hs⟩ := insP_l (x0 := x0) (x7 := x7) n a' (y :: b) k ha' (by simp; omega) (by omega) sa.1 (by rw [List.pairwise_cons]; exact ⟨fun q hq => hab y (by simp) q hq, sb⟩) (fun p hp q hq => by
        rcases List.mem_cons.1 hq with rfl | hq
        · exact sa.2.2 p hp q (by simp)
        · exact hab p (by simp [hp]) q hq) (fun q hq => by
        rcases List.mem_cons.1 hq with rfl | hq
        · exact hzy
        · exact hzb q hq)
      refine ⟨ys, k', by omega, by omega, e, hp.trans ?_, hs⟩
      rw [List.append_assoc]
      exact List.Perm.append_left a' (List.Perm.swap y z b)
    · rw [if_neg hc]
      have hyz : leP y z := by unfold leP; omega
      refine ⟨(a' ++ [y]) ++ z :: b, k, by omega, by omega, rfl, List.Perm.refl _, ?_⟩
      rw [List.pairwise_append, List.pairwise_cons]
      refine ⟨by rw [List.pairwise_append]; exact sa, ⟨hzb, sb⟩, fun p hp q hq => ?_⟩
      have hpz : leP p z := by
        rcases List.mem_append.1 hp with h1 | h1
        · exact Int.le_trans (sa.2.2 p h1 y (by simp)) hyz
        · obtain rfl : p = y := by simpa using h1
          exact hyz
      rcases List.mem_cons.1 hq with rfl | hq
      · exact hpz
      · exact hab p hp q hq
theorem rinv_l {l : List S55} (h : Valid l) (B : Nat) (hB : 40 ≤ B) : ∀ (n i : Nat) (acc : List S54) (k : Nat), i + n = l.length → 20 + n * B ≤ k → acc.Perm (((l.take i).map invP).map cv) → acc.Pairwise leP →
    ∃ ys, agonicref05_Inverse.l0 k (l.map cv) acc (i : Int) = some (ys, 0) ∧ ys.Perm ((l.map invP).map cv) ∧ ys.Pairwise leP
  | 0, i, acc, k, hi, hk, hp, hs => by
    obtain ⟨k, rfl⟩ : ∃ k', k = k' + 1 := ⟨k - 1, by omega⟩
    refine ⟨acc, ?_, by rwa [List.take_of_length_le (by omega)] at hp, hs⟩
    simp only [agonicref05_Inverse.l0]
    rw [List.length_map, if_neg (by omega)]
  | n + 1, i, acc, k, hi, hk, hp, hs => by
    obtain ⟨k, rfl⟩ : ∃ k', k = k' + 2 := ⟨k - 2, by omega⟩
    have hi' : i < l.length := by omega
    have hle := h.le
    have hmul : (n + 1) * B = n * B + B := by rw [Nat.add_mul, Nat.one_mul]
    have hr := h.hr i hi'
    have hd1 := h.dr i
    unfold hd at hr; unfold dv at hd1
    rw [if_pos hi', getD_lt hi'] at hr hd1
    have hal : acc.length = i := by rw [hp.length_eq]; simp; omega
    obtain ⟨ys, k', q1, q2, q3, q4, q5⟩ := insP_l (x0 := l.map cv) (x7 := (i : Int)) (z := cv (invP l[i])) acc.length acc [] (k + 1) rfl (by simp; omega) (by omega) hs (by simp) (by simp) (by simp)
    have e : (l.take i).map invP ++ [invP l[i]] = (l.take (i + 1)).map invP := by rw [List.take_succ_eq_append_getElem hi', List.map_append]; rfl
    obtain ⟨zs, r1, r2, r3⟩ := rinv_l h B hB n (i + 1) ys k' (by omega) (by omega) (by
      rw [← e, List.map_append]
      exact q4.trans (List.Perm.append_right _ hp)) q5
    refine ⟨zs, ?_, r2, r3⟩
    conv => lhs; simp only [agonicref05_Inverse.l0]
    rw [List.length_map, if_pos (by omega), if_pos (by omega), rd_cv hi']
    have e0 : (cv l[i]).f0 + (cv l[i]).f1 = l[i].f0 + l[i].f1 := rfl
    have e1 : (cv l[i]).f1 = l[i].f1 := rfl
    rw [e0, e1, w64 (x := l[i].f0 + l[i].f1) (by omega) (by omega), whole_f, Option.bind_some]
    dsimp only
    have har : agonicref05_around.f (k + 1) (l[i].f0 + l[i].f1) 1 = some ((l[i].f0 + l[i].f1) % 3600, 1) := by
      unfold agonicref05_around.f
      have := (raround_up 2 (k + 1) (l[i].f0 + l[i].f1) 1 (by omega) (by omega) (by omega) (by omega) (by omega) (by omega) (by omega)).1
      rwa [Int.mul_one] at this
    rw [har, Option.bind_some, if_pos (by omega), Option.bind_some, w64 (x := -l[i].f1) (by omega) (by omega)]
    have el : wrap64 (((acc ++ [(⟨(l[i].f0 + l[i].f1) % 3600, -l[i].f1⟩ : S54)]).length : Int) - 1) = (acc.length : Int) := by
      rw [List.length_append, List.length_singleton, w64 (by omega) (by omega)]; omega
    rw [el]
    have ez : (⟨(l[i].f0 + l[i].f1) % 3600, -l[i].f1⟩ : S54) = cv (invP l[i]) := rfl
    rw [ez, q3, w64 (by omega) (by omega)]
    exact r1
/-- The card that leads back. -/
theorem Inverse_same {l : List S55} {k : Nat} (hl : l.length ≤ 60) (hk : 5000 ≤ k) : ∃ (xs : List S55) (e : Int), card_Inverse.f k l = some (xs, e) ∧ agonicref05_Inverse.f k (l.map cv) = some (xs.map cv, e) ∧ xs.length ≤ 60 ∧
    (chkAll l = 0 → (∀ i, i < l.length → cr l i < cr l (i + 1)) → e = 0 ∧ xs.Perm (l.map invP) ∧ xs.Pairwise (fun a b => a.f0 < b.f0)) ∧ (chkAll l = 0 → ¬ (∀ i, i < l.length → cr l i < cr l (i + 1)) → e = 21 ∧ xs = []) := by
  obtain ⟨k, rfl⟩ : ∃ k', k = k' + 3 := ⟨k - 3, by omega⟩
  unfold card_Inverse.f agonicref05_Inverse.f
  rw [Check_f (by omega) (by omega), rFolds_f (by omega) (by omega), Option.bind_some, Option.bind_some]
  simp only [agonicref05_Inverse.j0, agonicref05_Inverse.j1]
  by_cases h : chkAll l = 0
  · have hv := valid_of_chk h
    rw [if_pos h, if_pos h, folds_f hv, Option.bind_some]
    by_cases hf : foldIdx (segs l) 0 = []
    · have hr := (no_folds hv).1 hf
      have hdist := inv_distinct hv hr
      have hok : okPs (l.map invP) = true := by
        unfold okPs
        rw [Bool.and_eq_true, decide_eq_true_eq, decide_eq_true_eq]
        exact ⟨by rw [List.length_map]; omega, hdist⟩
      have hi := inv_l hv l.length 0 (k + 3) (by omega) (by omega)
      rw [if_pos hok] at hi
      obtain ⟨ys, r1, r2, r3⟩ := rinv_l hv 40 (Nat.le_refl _) l.length 0 [] (k + 1) (by omega) (by omega) (by simp) List.Pairwise.nil
      have hsort : ((l.map invP).mergeSort (fun x y => !ltP y x)).Pairwise (fun a b => a.f0 ≤ b.f0) := by
        refine (List.pairwise_mergeSort (le := fun x y => !ltP y x) (fun a b c h1 h2 => ?_) (fun a b => ?_) _).imp (fun {a b} hab => ?_)
        · rw [ltP_eq] at h1 h2 ⊢
          simp only [Bool.not_eq_true', decide_eq_false_iff_not] at h1 h2 ⊢
          omega
        · rw [ltP_eq, ltP_eq]
          simp only [Bool.or_eq_true, Bool.not_eq_true', decide_eq_false_iff_not]
          omega
        · rw [ltP_eq] at hab
          simp only [Bool.not_eq_true', decide_eq_false_iff_not] at hab
          omega
      have hperm := List.mergeSort_perm (l.map invP) (fun x y => !ltP y x)
      have heq : ys = ((l.map invP).mergeSort (fun x y => !ltP y x)).map cv := by
        refine List.Perm.eq_of_pairwise (le := leP) (fun a b ha hb h1 h2 => ?_) r3 (by rw [List.pairwise_map]; exact hsort) (r2.trans (hperm.map cv).symm)
        obtain ⟨a', ha', rfl⟩ := List.mem_map.1 (r2.mem_iff.1 ha)
        obtain ⟨b', hb', rfl⟩ := List.mem_map.1 hb
        have e := pairwise_ne hdist a' ha' b' (hperm.mem_iff.1 hb') (Int.le_antisymm h1 h2)
        rw [e]
      refine ⟨(l.map invP).mergeSort (fun x y => !ltP y x), 0, ?_, ?_, by rw [hperm.length_eq, List.length_map]; exact hl, fun _ _ => ⟨rfl, hperm, ?_⟩, fun _ hn => absurd hr hn⟩
      · rw [hf, if_neg (by simp)]
        exact hi
      · dsimp only
        rw [if_pos rfl, hf, if_neg (by simp), if_pos rfl, ← heq]
        exact r1
      · have hd2 : ((l.map invP).mergeSort (fun x y => !ltP y x)).Pairwise (fun a b => a.f0 ≠ b.f0) := (hperm.pairwise_iff (fun {a b} hab => Ne.symm hab)).2 hdist
        exact (hsort.and hd2).imp (fun {a b} hab => by have := hab.1; have := hab.2; omega)
    · have hlen := List.length_pos_iff.2 hf
      refine ⟨[], 21, ?_, ?_, by simp, fun _ hr => absurd ((no_folds hv).2 hr) hf, fun _ _ => ⟨rfl, rfl⟩⟩
      · rw [if_pos (by omega)]
      · dsimp only
        rw [if_pos rfl, if_pos (decide_eq_true (by omega)), if_neg (by decide)]
        rfl
  · rw [if_neg h, if_neg h]
    refine ⟨[], chkAll l, rfl, ?_, by simp, fun h0 => absurd h0 h, fun h0 => absurd h0 h⟩
    dsimp only
    rw [if_neg h, if_neg (by decide), if_neg h]
    rfl
end Go.Proofs.Ytccjefoejjnccaa.M
/- What is proved here: cards one after the other are read alike by the program and the reference. -/
namespace Go.Proofs.Ytccjefoejjnccaa.M
open Go.Proofs.Ytccjefoejjnccaa Go.RowKit Go.Proofs.Ytccjefoejjnccaa.C Go.Proofs.Ytccjefoejjnccaa.H Go.Proofs.YtccjefoejjnccaaW.PrintWords Go.Proofs.YtccjefoejjnccaaW.PrintLast Go.Proofs.YtccjefoejjnccaaW.PrintMore
set_option linter.unusedSimpArgs false
set_option linter.unusedVariables false
/-- A list of fractions is added to a fraction, one by one. -/
def Sums : List S101 → Int → Int → Int → Int → Prop
  | [], a, b, s, t => a = s ∧ b = t
  | x :: xs, a, b, s, t => (∃ P A C, Fit a b x.f0 x.f1 P A C) ∧ ∃ p q, IsR p q (a * x.f1 + x.f0 * b) (b * x.f1) ∧ Sums xs p q s t
theorem sums_snoc {x : S101} {s t P A C : Int} : ∀ (xs : List S101) (a b p q : Int), Sums xs a b p q → Fit p q x.f0 x.f1 P A C → IsR s t (p * x.f1 + x.f0 * q) (q * x.f1) → Sums (xs ++ [x]) a b s t
  | [], a, b, p, q, h, hf, hr => by
    obtain ⟨rfl, rfl⟩ := h
    exact ⟨⟨P, A, C, hf⟩, s, t, hr, rfl, rfl⟩
  | y :: ys, a, b, p, q, ⟨h1, u, v, h2, h3⟩, hf, hr => ⟨h1, u, v, h2, sums_snoc ys u v p q h3 hf hr⟩
theorem sums_l (xs : List S101) (hl : xs.length < 1000000) {s t : Int} : ∀ (n i k : Nat) (a b : Int), i + n = xs.length → 131 + n ≤ k → Sums (xs.drop i) a b s t → card_ratio_plus.l0 k xs (xs.length : Int) (i : Int) a b = some (s, t)
  | 0, i, k, a, b, hi, hk, h => by
    obtain ⟨k, rfl⟩ : ∃ k', k = k' + 1 := ⟨k - 1, by omega⟩
    rw [List.drop_of_length_le (by omega)] at h
    obtain ⟨rfl, rfl⟩ := h
    simp only [card_ratio_plus.l0]
    rw [if_neg (by omega)]
  | n + 1, i, k, a, b, hi, hk, h => by
    obtain ⟨k, rfl⟩ : ∃ k', k = k' + 1 := ⟨k - 1, by omega⟩
    have hi' : i < xs.length := by omega
    rw [List.drop_eq_getElem_cons hi'] at h
    obtain ⟨⟨P, A, C, hf⟩, p, q, hr, hs⟩ := h
    have er : rd_T101 xs (i : Int) = xs[i] := by
      unfold rd_T101
      rw [List.getD_eq_getElem?_getD, Int.toNat_natCast, List.getElem?_eq_getElem hi']; rfl
    obtain ⟨p', q', e, hr', _⟩ := plus_step (k := k) (by omega) hi' hl (by rw [er]; exact hf)
    rw [er] at hr'
    have hb := hf.hb
    have he := hf.he
    have hne : b * xs[i].f1 ≠ 0 := by
      have : 0 < b * xs[i].f1 := Int.mul_pos (by omega) (by omega)
      omega
    obtain ⟨rfl, rfl⟩ := isR_unique hne hr hr'
    rw [e]
    exact sums_l xs hl n (i + 1) k p q (by omega) (by omega) hs
theorem sums_f {xs : List S101} (hl : xs.length < 1000000) {a b s t : Int} {k : Nat} (hk : 131 + xs.length ≤ k) (h : Sums xs a b s t) : card_ratio_plus.f k a b xs = some (s, t) := by
  unfold card_ratio_plus.f
  exact sums_l xs hl xs.length 0 k a b (by omega) (by omega) h
theorem rd_L11_at {ls : List (List S55)} {i : Nat} (h : i < ls.length) : rd_L11 ls (i : Int) = ls[i] := by
  unfold rd_L11
  rw [List.getD_eq_getElem?_getD, Int.toNat_natCast, List.getElem?_eq_getElem h]; rfl
theorem rd_L7_at {ls : List (List S55)} {i : Nat} (h : i < ls.length) : rd_L7 (ls.map (fun l => l.map cv)) (i : Int) = ls[i].map cv := by
  unfold rd_L7
  rw [List.getD_eq_getElem?_getD, Int.toNat_natCast, List.getElem?_map, List.getElem?_eq_getElem h]; rfl
/-- The reading of one card after others: what is known of the fraction at which it is read, and of the sum. -/
structure At (i : Nat) (P N d s t : Int) : Prop where
  d1 : 1 ≤ d
  dP : d ∣ P
  P1 : 1 ≤ P
  PB : P ≤ 3600 ^ i
  N0 : 0 ≤ N
  N1 : N < 3600 * d
  t1 : 1 ≤ t
  tP : t ∣ P
  s0 : -(900 * (i : Int) * t) ≤ s
  s1 : s ≤ 900 * (i : Int) * t
theorem pow_bd {i : Nat} (hi : i < 3) : (3600 : Int) ^ i ≤ 12960000 := by
  match i, hi with
  | 0, _ => decide
  | 1, _ => decide
  | 2, _ => decide
/-- One card more. -/
theorem follow_step {l : List S55} (h : Valid l) {i : Nat} (hi : i < 3) {k : Nat} (hk : 260 ≤ k) {P N d s t : Int} (ha : At i P N d s t) :
    ∃ p q P' A C u v N' d' s' t', card_Card_deviation.f k l N d = some (p, q) ∧ agonicref05_deviation.f k (l.map cv) N d = some (p, q) ∧ card_ratio_plus.f k N d [⟨p, q⟩] = some (u, v) ∧ card_ratio_around.f u v = some (N', d') ∧
      agonicref05_Plus.f k s t p q = some (s', t') ∧ agonicref05_Plus.f k N d p q = some (u, v) ∧ agonicref05_around.f k u v = some (N', d') ∧ Fit s t p q P' A C ∧ IsR s' t' (s * q + p * t) (t * q) ∧ At (i + 1) P' N' d' s' t' := by
  obtain ⟨d1, dP, P1, PB, N0, N1, t1, tP, s0, s1⟩ := ha
  have hPB := Int.le_trans PB (pow_bd hi)
  have hdP := Int.le_of_dvd (by omega) dP
  obtain ⟨p, q, j, e1, e2, hdev⟩ := dev_same h (k := k) (by omega) d1 (by omega) N0 N1
  obtain ⟨vq, p0, p1⟩ := hdev.bd h d1
  obtain ⟨b1, b2, b3, b4, b5, b6⟩ := h.len hdev.hi
  have hq := hdev.is.1
  have hDd : devD l j d = (hd l (j + 1) - hd l j) * d := rfl
  generalize hL : hd l (j + 1) - hd l j = L at *
  have hLP := prod_le (show 0 ≤ L by omega) b2 (show 0 ≤ P by omega) hPB
  have hLP1 : 1 ≤ L * P := by
    have : 0 < L * P := Int.mul_pos (by omega) (by omega)
    omega
  have qP : q ∣ L * P := Int.dvd_trans vq (by rw [hDd]; exact Int.mul_dvd_mul_left _ dP)
  have dP' : d ∣ L * P := Int.dvd_trans dP (Int.dvd_mul_left _ _)
  have tP' : t ∣ L * P := Int.dvd_trans tP (Int.dvd_mul_left _ _)
  have F1 : Fit N d p q (L * P) 3600 900 := ⟨d1, hq, dP', qP, hLP1, by omega, by omega, by omega, p0, p1, by omega, by omega, by omega⟩
  have F2 : Fit s t p q (L * P) (900 * (i : Int)) 900 := ⟨t1, hq, tP', qP, hLP1, by omega, s0, s1, p0, p1, by omega, by omega, by
    have : (900 * (i : Int) + 900) * (L * P) ≤ 2700 * (3600 * 12960000) := Int.le_trans (Int.mul_le_mul_of_nonneg_right (by omega) (by omega)) (Int.mul_le_mul_of_nonneg_left hLP.2 (by omega))
    omega⟩
  obtain ⟨u, v, e3, r3, v3, l3, u3⟩ := plus1_f (k := k) (by omega) F1
  obtain ⟨u', v', e5, r5, _⟩ := ref_plus (k := k) (by omega) F1
  obtain ⟨s', t', e6, r6, v6, l6, u6⟩ := ref_plus (k := k) (by omega) F2
  have hdq : d * q ≠ 0 := by
    have : 0 < d * q := Int.mul_pos (by omega) (by omega)
    omega
  obtain ⟨rfl, rfl⟩ := isR_unique hdq r3 r5
  have hv := r3.1
  have hvle : v ≤ L * P := Int.le_of_dvd (by omega) v3
  have m0 := Int.emod_nonneg u (b := 3600 * v) (by omega)
  have m1 := Int.emod_lt_of_pos u (b := 3600 * v) (by omega)
  -- the course is from -900 to below 4500
  have hdq1 : 1 ≤ d * q := by
    have : 0 < d * q := Int.mul_pos (by omega) (by omega)
    omega
  have ulo : -(900 * v) ≤ u := by
    have hx := isR_lt r3 hdq1 (-900)
    have z1 : -(900 * q) * d ≤ p * d := Int.mul_le_mul_of_nonneg_right p0 (by omega)
    have z2 : 0 ≤ N * q := Int.mul_nonneg N0 (by omega)
    have z4 : -(900 * q) * d = -900 * (d * q) := by grind
    have hn : ¬ u < -900 * v := fun hh => by
      have := hx.1 hh
      omega
    omega
  have uup : u < 4500 * v := by
    refine (isR_lt r3 hdq1 4500).2 ?_
    have z1 : p * d ≤ 900 * q * d := Int.mul_le_mul_of_nonneg_right p1 (by omega)
    have z2 : N * q < 3600 * d * q := Int.mul_lt_mul_of_pos_right N1 (by omega)
    have z4 : 900 * q * d = 900 * (d * q) := by grind
    have z5 : 3600 * d * q = 3600 * (d * q) := by grind
    omega
  have e4 := around_f (n := u) hv (by omega) (by omega) (by omega)
  have e7 : agonicref05_around.f k u v = some (u % (3600 * v), v) := by
    unfold agonicref05_around.f
    exact (raround_up 2 k u v hv (by omega) (by omega) (by omega) (by omega) (by omega) (by omega)).1
  refine ⟨p, q, L * P, 900 * (i : Int), 900, u, v, u % (3600 * v), v, s', t', e1, e2, e3, e4, e6, e5, e7, F2, r6, hv, v3, hLP1, ?_, m0, m1, r6.1, v6, ?_, ?_⟩
  · rw [Int.pow_succ, Int.mul_comm]
    exact Int.le_trans (Int.mul_le_mul_of_nonneg_left b2 (by omega)) (Int.mul_le_mul_of_nonneg_right PB (by omega))
  · have : (900 * (i : Int) + 900) = 900 * ((i + 1 : Nat) : Int) := by omega
    rw [this] at l6; exact l6
  · have : (900 * (i : Int) + 900) = 900 * ((i + 1 : Nat) : Int) := by omega
    rw [this] at u6; exact u6
/-- All cards from i on. -/
theorem follow_l {ls : List (List S55)} (hv : ∀ l ∈ ls, Valid l) (h3 : ls.length ≤ 3) : ∀ (n i k : Nat) (ds : List S101) (P N d s t : Int), i + n = ls.length → 300 + n ≤ k → ds.length = i → Sums ds 0 1 s t → At i P N d s t →
    ∃ p q, card_Follow.l1 k ds ls (ls.length : Int) (i : Int) N d = some (p, q, 0) ∧ agonicref05_Follow.l1 k (ls.map (fun l => l.map cv)) (i : Int) s t N d = some (p, q, 0)
  | 0, i, k, ds, P, N, d, s, t, hi, hk, hd, hs, ha => by
    obtain ⟨k, rfl⟩ : ∃ k', k = k' + 1 := ⟨k - 1, by omega⟩
    refine ⟨s, t, ?_, ?_⟩
    · simp only [card_Follow.l1]
      rw [if_neg (by omega)]
      show (card_ratio_plus.f k 0 1 ds).bind _ = _
      rw [sums_f (by omega) (by omega) hs]
      rfl
    · simp only [agonicref05_Follow.l1]
      rw [List.length_map, if_neg (by omega)]
  | n + 1, i, k, ds, P, N, d, s, t, hi, hk, hd, hs, ha => by
    obtain ⟨k, rfl⟩ : ∃ k', k = k' + 1 := ⟨k - 1, by omega⟩
    have hi' : i < ls.length := by omega
    obtain ⟨p, q, P', A, C, u, v, N', d', s', t', e1, e2, e3, e4, e5, e6, e7, hf, hr, hat⟩ := follow_step (hv ls[i] (List.getElem_mem hi')) (show i < 3 by omega) (k := k) (by omega) ha
    obtain ⟨a, b, x1, x2⟩ := follow_l hv h3 n (i + 1) k (ds ++ [⟨p, q⟩]) P' N' d' s' t' (by omega) (by omega) (by simp; omega) (sums_snoc (x := ⟨p, q⟩) ds 0 1 s t hs hf hr) hat
    refine ⟨a, b, ?_, ?_⟩
    · simp only [card_Follow.l1]
      rw [if_pos (by omega), if_pos (by omega), if_pos (by omega), rd_L11_at hi', e1, Option.bind_some, if_pos (by omega)]
      dsimp only
      rw [e3, Option.bind_some]
      dsimp only
      rw [e4, Option.bind_some, w64 (by omega) (by omega)]
      exact x1
    · simp only [agonicref05_Follow.l1]
      rw [List.length_map, if_pos (by omega), if_pos (by omega), rd_L7_at hi', e2, Option.bind_some]
      dsimp only
      rw [e5, Option.bind_some, e6, Option.bind_some]
      dsimp only
      rw [e7, Option.bind_some, w64 (by omega) (by omega)]
      exact x2
theorem follow0_l {ls : List (List S55)} (h60 : ∀ l ∈ ls, l.length ≤ 60) (h3 : ls.length ≤ 3) (c : Int) : ∀ (n i k : Nat), i + n = ls.length → 1000 + n ≤ k → (∀ j, j < i → ∀ h : j < ls.length, chkAll ls[j] = 0) →
    ∃ p q e, card_Follow.l0 k ls c ls (ls.length : Int) (i : Int) = some (p, q, e) ∧ agonicref05_Follow.l0 k (ls.map (fun l => l.map cv)) c (i : Int) = some (p, q, e)
  | 0, i, k, hi, hk, hc => by
    obtain ⟨k, rfl⟩ : ∃ k', k = k' + 1 := ⟨k - 1, by omega⟩
    simp only [card_Follow.l0, agonicref05_Follow.l0]
    rw [if_neg (by omega), List.length_map, if_neg (by omega), heading_f, rheading_f, Option.bind_some, Option.bind_some]
    by_cases hh : 0 ≤ c ∧ c < 3600
    · rw [if_pos (decide_eq_true hh), if_pos (decide_eq_true hh)]
      have hv : ∀ l ∈ ls, Valid l := fun l hl => by
        obtain ⟨j, hj, rfl⟩ := List.getElem_of_mem hl
        exact valid_of_chk (hc j (by omega) hj)
      obtain ⟨p, q, a, b⟩ := follow_l hv h3 ls.length 0 k [] 1 c 1 0 1 (by omega) (by omega) rfl ⟨rfl, rfl⟩ ⟨by omega, Int.dvd_refl _, by omega, by decide, hh.1, by omega, by omega, Int.dvd_refl _, by omega, by omega⟩
      exact ⟨p, q, 0, a, b⟩
    · rw [if_neg (by rw [decide_eq_false hh]; decide), if_neg (by rw [decide_eq_false hh]; decide)]
      exact ⟨_, _, _, rfl, rfl⟩
  | n + 1, i, k, hi, hk, hc => by
    obtain ⟨k, rfl⟩ : ∃ k', k = k' + 1 := ⟨k - 1, by omega⟩
    have hi' : i < ls.length := by omega
    have hl := h60 ls[i] (List.getElem_mem hi')
    have p1 : card_Follow.l0 (k + 1) ls c ls (ls.length : Int) (i : Int) = if chkAll ls[i] = 0 then card_Follow.l0 k ls c ls (ls.length : Int) ((i + 1 : Nat) : Int) else some (0, 0, chkAll ls[i]) := by
      conv => lhs; simp only [card_Follow.l0]
      rw [if_pos (by omega), if_pos (by omega), if_pos (by omega), rd_L11_at hi', Check_f (by omega) (by omega), Option.bind_some, w64 (by omega) (by omega)]
      rfl
    have p2 : agonicref05_Follow.l0 (k + 1) (ls.map (fun l => l.map cv)) c (i : Int) = if chkAll ls[i] = 0 then agonicref05_Follow.l0 k (ls.map (fun l => l.map cv)) c ((i + 1 : Nat) : Int) else some (0, 0, chkAll ls[i]) := by
      conv => lhs; simp only [agonicref05_Follow.l0]
      rw [List.length_map, if_pos (by omega), if_pos (by omega), rd_L7_at hi', rCheck_f (by omega) (by omega), Option.bind_some, w64 (by omega) (by omega)]
      rfl
    rw [p1, p2]
    by_cases h : chkAll ls[i] = 0
    · rw [if_pos h, if_pos h]
      exact follow0_l h60 h3 c n (i + 1) k (by omega) (by omega) (fun j hj hj2 => by
        rcases Nat.lt_or_eq_of_le (Nat.lt_succ_iff.1 hj) with h2 | rfl
        · exact hc j h2 hj2
        · exact h)
    · rw [if_neg h, if_neg h]
      exact ⟨_, _, _, rfl, rfl⟩
theorem Follow_same {ls : List (List S55)} (h60 : ∀ l ∈ ls, l.length ≤ 60) (c : Int) {k : Nat} (hk : 2000 ≤ k) : ∃ p q e, card_Follow.f k ls c = some (p, q, e) ∧ agonicref05_Follow.f k (ls.map (fun l => l.map cv)) c = some (p, q, e) := by
  unfold card_Follow.f agonicref05_Follow.f
  rw [List.length_map]
  by_cases h1 : (ls.length : Int) = 0
  · rw [if_pos h1, if_pos h1]; exact ⟨_, _, _, rfl, rfl⟩
  · rw [if_neg h1, if_neg h1]
    by_cases h2 : (ls.length : Int) > 3
    · rw [if_pos h2, if_pos h2]; exact ⟨_, _, _, rfl, rfl⟩
    · rw [if_neg h2, if_neg h2]
      exact follow0_l h60 (by omega) c ls.length 0 k (by omega) (by omega) (fun j hj => by omega)
theorem same_l (a : List S55) (x0 : List (List S55)) (x1 : Int) (x5 : List (List S54)) (x6 : Int) (ha : a.length < 1000) : ∀ (n i k : Nat), i + n = a.length → n + 1 ≤ k → agoniclaw05_CardFollows.l1 k x0 x1 x5 x6 a (a.map cv) (i : Int) = agoniclaw05_CardFollows.l0 (k - n - 1) x0 x1 x5 (wrap64 (x6 + 1))
  | 0, i, k, hi, hk => by
    obtain ⟨k, rfl⟩ : ∃ k', k = k' + 1 := ⟨k - 1, by omega⟩
    simp only [agoniclaw05_CardFollows.l1]
    rw [if_neg (by omega)]
    congr 1
  | n + 1, i, k, hi, hk => by
    obtain ⟨k, rfl⟩ : ∃ k', k = k' + 1 := ⟨k - 1, by omega⟩
    have hi' : i < a.length := by omega
    simp only [agoniclaw05_CardFollows.l1]
    rw [if_pos (by omega), if_pos (by omega), if_pos (by rw [List.length_map]; omega), rd_get hi', rd_cv hi', if_neg (by simp [cv]), w64 (by omega) (by omega)]
    rw [show ((i : Int) + 1) = ((i + 1 : Nat) : Int) by omega, same_l a x0 x1 x5 x6 ha n (i + 1) k (by omega) (by omega)]
    congr 1
    omega
theorem follows_l {ls : List (List S55)} (h10 : ls.length ≤ 10) (c : Int) (B : Nat) (hB : 70 ≤ B) : ∀ (n i k : Nat), i + n = ls.length → 6000 + n * B ≤ k → (∀ j, j < i → ∀ h : j < ls.length, ls[j].length ≤ 60) →
    agoniclaw05_CardFollows.l0 k ls c ((ls.take i).map (fun l => l.map cv)) (i : Int) = some true
  | 0, i, k, hi, hk, hc => by
    obtain ⟨k, rfl⟩ : ∃ k', k = k' + 1 := ⟨k - 1, by omega⟩
    simp only [agoniclaw05_CardFollows.l0]
    obtain ⟨p, q, e, e1, e2⟩ := Follow_same (ls := ls) (fun l hl => by
      obtain ⟨j, hj, rfl⟩ := List.getElem_of_mem hl
      exact hc j (by omega) hj) c (k := k) (by omega)
    rw [if_neg (by omega), List.take_of_length_le (by omega), e1, e2, Option.bind_some, Option.bind_some, if_pos (by simp), if_pos rfl]
    rfl
  | n + 1, i, k, hi, hk, hc => by
    obtain ⟨k, rfl⟩ : ∃ k', k = k' + 2 := ⟨k - 2, by omega⟩
    have hmul : (n + 1) * B = n * B + B := by rw [Nat.add_mul, Nat.one_mul]
    have hi' : i < ls.length := by omega
    simp only [agoniclaw05_CardFollows.l0]
    rw [if_pos (by omega), if_pos (by omega), rd_L11_at hi']
    by_cases h60 : (ls[i].length : Int) > 60
    · rw [if_pos h60]; rfl
    · obtain ⟨xs, e, x1, x2, x3, _⟩ := Inverse_same (l := ls[i]) (k := k + 1) (by omega) (by omega)
      have hy : rd_L7 ((ls.take i).map (fun l => l.map cv) ++ [ls[i].map cv]) (i : Int) = ls[i].map cv := by
        unfold rd_L7
        rw [List.getD_eq_getElem?_getD, Int.toNat_natCast, List.getElem?_append_right (by simp; omega)]
        simp
        have : i - min i ls.length = 0 := by omega
        rw [this]; rfl
      rw [if_neg h60, given_f (by omega) (by omega), Option.bind_some, if_pos (by simp; omega), Option.bind_some, x1, Option.bind_some, if_pos (by simp; omega), hy, x2, Option.bind_some, if_pos rfl]
      simp only [agoniclaw05_CardFollows.j1]
      rw [if_neg (by simp), ← Int.natCast_zero, same_l xs _ _ _ _ (by omega) xs.length 0 k (by omega) (by omega), w64 (by omega) (by omega)]
      have e2 : (ls.take i).map (fun l => l.map cv) ++ [ls[i].map cv] = (ls.take (i + 1)).map (fun l => l.map cv) := by rw [List.take_succ_eq_append_getElem hi', List.map_append]; rfl
      rw [e2]
      exact follows_l h10 c B hB n (i + 1) _ (by omega) (by omega) (fun j hj hj2 => by
        rcases Nat.lt_or_eq_of_le (Nat.lt_succ_iff.1 hj) with h2 | rfl
        · exact hc j h2 hj2
        · omega)
theorem CardFollows_pure (ls : List (List S55)) (c : Int) : ∃ k, agoniclaw05_CardFollows.f k ls c = some true := by
  refine ⟨6000 + 10 * 70, ?_⟩
  unfold agoniclaw05_CardFollows.f
  by_cases h : (ls.length : Int) > 10
  · rw [if_pos h]; rfl
  · rw [if_neg h]
    exact follows_l (by omega) c 70 (Nat.le_refl _) ls.length 0 _ (by omega) (by omega) (fun j hj => by omega)
end Go.Proofs.Ytccjefoejjnccaa.M
