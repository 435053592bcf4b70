/- What is proved here: cards are checked, deviations and folds are told alike by the program and the reference. -/
import Derived.Test.YtccjefoejjnccaaM4
import Derived.Test.YtccjefoejjnccaaC21
import Derived.Test.YtccjefoejjnccaaC23
namespace Go.Proofs.Ytccjefoejjnccaa.M
open Go.Proofs.Ytccjefoejjnccaa Go.RowKit Go.Proofs.Ytccjefoejjnccaa.C Go.Proofs.Ytccjefoejjnccaa.H Go.Proofs.YtccjefoejjnccaaW.PrintWords Go.Proofs.YtccjefoejjnccaaW.PrintLast Go.Proofs.YtccjefoejjnccaaW.PrintMore
set_option linter.unusedSimpArgs false
set_option linter.unusedVariables false
/-- The magnetic course at the beginning of segment i. -/
def cr (l : List S55) (i : Nat) : Int := hd l i + dv l i
theorem Valid.cr_bd {l : List S55} (h : Valid l) {i : Nat} (hi : i ≤ l.length) : -900 ≤ cr l i ∧ cr l i < 8100 := by
  have h1 := h.mono' (show 0 ≤ i by omega) hi
  have h2 := h.mono' hi (Nat.le_refl _)
  have h3 := h.hr 0 h.pos
  have h4 := h.last.1
  have h5 := h.dr i
  unfold cr
  omega
theorem foldsAt_f {l : List S55} (h : Valid l) {i : Nat} (hi : i < l.length) : foldsAt (seg l i) = decide (cr l (i + 1) ≤ cr l i) := by
  have h1 := h.cr_bd (show i ≤ l.length by omega)
  have h2 := h.cr_bd (show i + 1 ≤ l.length by omega)
  unfold cr at h1 h2 ⊢
  unfold foldsAt
  rw [seg_eq h hi]
  dsimp only
  rw [w64 (by omega) (by omega), w64 (by omega) (by omega)]
theorem folds_f {l : List S55} (h : Valid l) : card_Card_folds.f l = some (foldIdx (segs l) 0) := by
  have := h.le
  unfold card_Card_folds.f
  rw [if_pos (by omega)]
theorem rise_f {l : List S55} (h : Valid l) {i : Nat} (hi : i < l.length) : agonicref05_rise.f (l.map cv) (i : Int) = some (cr l (i + 1) - cr l i) := by
  obtain ⟨b1, b2, b3, b4, b5, b6⟩ := h.len hi
  have c1 := h.dr i
  have c2 := h.dr (i + 1)
  unfold agonicref05_rise.f
  rw [rseg_f h hi, Option.bind_some]
  dsimp only
  rw [w64 (x := hd l (i + 1) - hd l i) (by omega) (by omega), w64 (x := hd l (i + 1) - hd l i + dv l (i + 1)) (by omega) (by omega), w64 (by omega) (by omega)]
  unfold cr
  congr 1
  omega
theorem rfolds_l {l : List S55} (h : Valid l) : ∀ (n : Nat) (i : Nat) (k : Nat), i + n = l.length → n + 1 ≤ k → agonicref05_Folds.l0 k (l.map cv) (foldIdx (upto l i) 0) (i : Int) = some (foldIdx (segs l) 0, 0)
  | 0, i, k, hi, hk => by
    obtain ⟨k, rfl⟩ : ∃ k', k = k' + 1 := ⟨k - 1, by omega⟩
    obtain rfl : i = l.length := by omega
    unfold agonicref05_Folds.l0
    rw [List.length_map, if_neg (by omega), upto_all]
  | n + 1, i, k, hi, hk => by
    obtain ⟨k, rfl⟩ : ∃ k', k = k' + 1 := ⟨k - 1, by omega⟩
    have hle := h.le
    have ih := rfolds_l h n (i + 1) k (by omega) (by omega)
    have hlen := foldIdx_length (upto l i) 0
    rw [upto_length] at hlen
    unfold agonicref05_Folds.l0
    rw [List.length_map, if_pos (by omega), rise_f h (by omega), Option.bind_some, w64 (by omega) (by omega), show ((i : Int) + 1) = ((i + 1 : Nat) : Int) by omega]
    have hs : foldIdx (upto l (i + 1)) 0 = foldIdx (upto l i) 0 ++ if cr l (i + 1) ≤ cr l i then [(i : Int)] else [] := by
      rw [upto_succ, foldIdx_snoc, foldsAt_f h (by omega), upto_length]
      simp
    rw [hs] at ih
    by_cases hc : cr l (i + 1) ≤ cr l i
    · rw [if_pos hc] at ih
      rw [if_pos (by omega), if_pos (by omega)]
      exact ih
    · rw [if_neg hc, List.append_nil] at ih
      rw [if_neg (by omega)]
      exact ih
theorem rFolds_f {l : List S55} {k : Nat} (hl : l.length < 1000000) (hk : 3 * l.length + 3 ≤ k) : agonicref05_Folds.f k (l.map cv) = some (if chkAll l = 0 then (foldIdx (segs l) 0, 0) else ([], chkAll l)) := by
  unfold agonicref05_Folds.f
  rw [rCheck_f hl hk, Option.bind_some]
  by_cases h : chkAll l = 0
  · rw [if_pos h, if_pos h]
    have hv := valid_of_chk h
    exact rfolds_l hv l.length 0 k (by omega) (by omega)
  · rw [if_neg h, if_neg h]
end Go.Proofs.Ytccjefoejjnccaa.M
