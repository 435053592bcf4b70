/- What is proved here: a card is checked alike by the program and by the reference. -/
import Derived.Test.YtccjefoejjnccaaM1
import Derived.Test.YtccjefoejjnccaaC6
import Derived.Test.YtccjefoejjnccaaC7
namespace Go.Proofs.Ytccjefoejjnccaa.M
open Go.Proofs.Ytccjefoejjnccaa Go.RowKit Go.Proofs.Ytccjefoejjnccaa.C Go.Proofs.YtccjefoejjnccaaW.PrintWords Go.Proofs.YtccjefoejjnccaaW.PrintLast Go.Proofs.YtccjefoejjnccaaW.PrintMore
/-- The error of a list of points behind a heading. -/
def chk : Int → List S55 → Int
  | _, [] => 0
  | last, p :: ps => if ¬ (0 ≤ p.f0 ∧ p.f0 < 3600 ∧ -900 ≤ p.f1 ∧ p.f1 ≤ 900) then 1 else if p.f0 = last then 7 else if p.f0 < last then 5 else chk p.f0 ps
def chkAll (l : List S55) : Int := if l.length = 0 then 2 else if l.length > 36 then 3 else chk (-1) l
def asK (p : S55) : S92 := ⟨p.f0, ⟨p.f1, p.f1⟩⟩
theorem rd_get {l : List S55} {i : Nat} (h : i < l.length) : rd_T55 l (i : Int) = l[i] := by
  unfold rd_T55
  rw [List.getD_eq_getElem?_getD, Int.toNat_natCast, List.getElem?_eq_getElem h]; rfl
theorem rd_get92 {l : List S92} {i : Nat} (h : i < l.length) : rd_T92 l (i : Int) = l[i] := by
  unfold rd_T92
  rw [List.getD_eq_getElem?_getD, Int.toNat_natCast, List.getElem?_eq_getElem h]; rfl
theorem known_l : ∀ (n : Nat) (l : List S55) (i : Nat) (k : Nat) (acc : List S92), i + n = l.length → l.length < 1000000 → acc.length = i → n + 1 ≤ k → card_Card_known.l0 k acc l (l.length : Int) (i : Int) = some (acc ++ (l.drop i).map asK)
  | 0, l, i, k, acc, h, hl, ha, hk => by
    obtain ⟨k, rfl⟩ : ∃ k', k = k' + 1 := ⟨k - 1, by omega⟩
    unfold card_Card_known.l0
    rw [if_neg (by omega), List.drop_of_length_le (by omega)]
    simp
  | n + 1, l, i, k, acc, h, hl, ha, hk => by
    obtain ⟨k, rfl⟩ : ∃ k', k = k' + 1 := ⟨k - 1, by omega⟩
    unfold card_Card_known.l0
    rw [if_pos (by omega), if_pos (by omega), if_pos (by omega), if_pos (by omega), w64 (by omega) (by omega), rd_get (by omega : i < l.length)]
    rw [show ((i : Int) + 1) = ((i + 1 : Nat) : Int) by omega, known_l n l (i + 1) k _ (by omega) hl (by simp; omega) (by omega)]
    rw [List.drop_eq_getElem_cons (by omega : i < l.length), List.map_cons, List.append_assoc]
    rfl
theorem known_f {l : List S55} {k : Nat} (hl : l.length < 1000000) (hk : l.length + 1 ≤ k) : card_Card_known.f k l = some (l.map asK) := by
  unfold card_Card_known.f
  have := known_l l.length l 0 k [] (by omega) hl rfl hk
  simpa using this
theorem heading_f (a : Int) : card_heading.f a = some (decide (0 ≤ a ∧ a < 3600)) := by
  unfold card_heading.f
  by_cases h : a ≥ 0
  · rw [if_pos h]
    congr 1
    by_cases h2 : a < 3600
    · simp [h2, h]
    · simp [h2]
  · rw [if_neg h]
    simp
    omega
theorem wrong_f {k : Nat} (hk : 1 ≤ k) (a last lo hi : Int) : card_wrong.f k a last lo hi = some (if ¬ (0 ≤ a ∧ a < 3600 ∧ -900 ≤ lo ∧ lo ≤ hi ∧ hi ≤ 900) then 1 else if a = last then 7 else if a < last then 5 else 0) := by
  obtain ⟨k, rfl⟩ : ∃ k', k = k' + 1 := ⟨k - 1, by omega⟩
  have hj : ∀ b, card_wrong.j0 (k + 1) a last b = some (if b = true then 1 else if a = last then 7 else if a < last then 5 else 0) := by
    intro b
    simp only [card_wrong.j0]
    by_cases h1 : b = true
    · rw [if_pos h1, if_pos h1]
    · rw [if_neg h1, if_neg h1]
      by_cases h2 : a = last
      · rw [if_pos h2, if_pos h2]
      · rw [if_neg h2, if_neg h2]
        by_cases h3 : a < last
        · rw [if_pos h3, if_pos h3]
        · rw [if_neg h3, if_neg h3]
  unfold card_wrong.f
  simp only [heading_f, Option.bind_some, hj, decide_eq_true_eq]
  by_cases h1 : 0 ≤ a ∧ a < 3600
  · rw [if_pos h1]
    by_cases h2 : lo < -900
    · rw [if_pos h2, if_pos trivial, if_pos (by omega)]
    · rw [if_neg h2]
      by_cases h3 : lo > hi
      · rw [if_pos h3, if_pos trivial, if_pos (by omega)]
      · rw [if_neg h3]
        by_cases h4 : hi > 900
        · rw [if_pos h4, if_pos (by omega)]
        · rw [if_neg h4, if_neg (show ¬ ¬ (0 ≤ a ∧ a < 3600 ∧ -900 ≤ lo ∧ lo ≤ hi ∧ hi ≤ 900) from fun hn => hn (by omega))]
  · rw [if_neg h1, if_pos trivial, if_pos (by omega)]
/-- The error of a point behind a heading. -/
def wr (last : Int) (p : S55) : Int := if ¬ (0 ≤ p.f0 ∧ p.f0 < 3600 ∧ -900 ≤ p.f1 ∧ p.f1 ≤ 900) then 1 else if p.f0 = last then 7 else if p.f0 < last then 5 else 0
theorem chk_cons (last : Int) (p : S55) (ps : List S55) : chk last (p :: ps) = if wr last p = 0 then chk p.f0 ps else wr last p := by
  simp only [chk, wr]
  by_cases h1 : 0 ≤ p.f0 ∧ p.f0 < 3600 ∧ -900 ≤ p.f1 ∧ p.f1 ≤ 900
  · simp only [h1, not_true_eq_false, if_false, and_self]
    by_cases h2 : p.f0 = last
    · simp [h2]
    · simp only [h2, if_false]
      by_cases h3 : p.f0 < last
      · simp [h3]
      · simp [h3]
  · simp [h1]
theorem wrong_wr {k : Nat} (hk : 1 ≤ k) (p : S55) (last : Int) : card_wrong.f k p.f0 last p.f1 p.f1 = some (wr last p) := by
  rw [wrong_f hk]
  unfold wr
  congr 1
  have : (0 ≤ p.f0 ∧ p.f0 < 3600 ∧ -900 ≤ p.f1 ∧ p.f1 ≤ p.f1 ∧ p.f1 ≤ 900) = (0 ≤ p.f0 ∧ p.f0 < 3600 ∧ -900 ≤ p.f1 ∧ p.f1 ≤ 900) := by
    apply propext; omega
  simp only [this]
theorem kcheck_l : ∀ (n : Nat) (l : List S55) (i : Nat) (k : Nat) (last : Int), i + n = l.length → l.length < 1000000 → n + 2 ≤ k → card_Known_check.l0 k last (l.map asK) (l.length : Int) (i : Int) = some (chk last (l.drop i))
  | 0, l, i, k, last, h, hl, hk => by
    obtain ⟨k, rfl⟩ : ∃ k', k = k' + 1 := ⟨k - 1, by omega⟩
    unfold card_Known_check.l0
    rw [if_neg (by omega), List.drop_of_length_le (by omega)]
    rfl
  | n + 1, l, i, k, last, h, hl, hk => by
    obtain ⟨k, rfl⟩ : ∃ k', k = k' + 1 := ⟨k - 1, by omega⟩
    have hi : i < l.length := by omega
    unfold card_Known_check.l0
    rw [if_pos (by omega), if_pos (by omega), if_pos (by rw [List.length_map]; omega), rd_get92 (by rw [List.length_map]; exact hi), List.getElem_map]
    show (card_wrong.f k l[i].f0 last l[i].f1 l[i].f1).bind _ = _
    rw [wrong_wr (by omega), Option.bind_some, List.drop_eq_getElem_cons hi, chk_cons]
    by_cases h0 : wr last l[i] = 0
    · rw [if_pos h0, if_pos h0, w64 (by omega) (by omega), show ((i : Int) + 1) = ((i + 1 : Nat) : Int) by omega]
      exact kcheck_l n l (i + 1) k _ (by omega) hl (by omega)
    · rw [if_neg h0, if_neg h0]
theorem Check_f {l : List S55} {k : Nat} (hl : l.length < 1000000) (hk : l.length + 2 ≤ k) : card_Check.f k l = some (chkAll l) := by
  unfold card_Check.f
  rw [known_f hl (by omega), Option.bind_some]
  unfold card_Known_check.f chkAll
  rw [List.length_map]
  by_cases h1 : l.length = 0
  · rw [if_pos (by omega), if_pos h1]; rfl
  · rw [if_neg (by omega), if_neg h1]
    by_cases h2 : l.length > 36
    · rw [if_pos (by omega), if_pos h2]; rfl
    · rw [if_neg (by omega), if_neg h2]
      have := kcheck_l l.length l 0 k (-1) (by omega) hl hk
      rw [List.drop_zero] at this
      exact (congrArg (fun z => Option.bind z fun t => some t) this)
/-- A point in the reference's type. -/
def cv (p : S55) : S54 := ⟨p.f0, p.f1⟩
theorem rd_cv {l : List S55} {i : Nat} (h : i < l.length) : rd_T54 (l.map cv) (i : Int) = cv l[i] := by
  unfold rd_T54
  rw [List.getD_eq_getElem?_getD, Int.toNat_natCast, List.getElem?_map, List.getElem?_eq_getElem h]; rfl
theorem given_l : ∀ (n : Nat) (l : List S55) (i : Nat) (k : Nat), i + n = l.length → l.length < 1000000 → n + 1 ≤ k → agoniclaw05_given.l0 k l ((l.take i).map cv) (i : Int) = some (l.map cv)
  | 0, l, i, k, h, hl, hk => by
    obtain ⟨k, rfl⟩ : ∃ k', k = k' + 1 := ⟨k - 1, by omega⟩
    unfold agoniclaw05_given.l0
    rw [if_neg (by omega), List.take_of_length_le (by omega)]
  | n + 1, l, i, k, h, hl, hk => by
    obtain ⟨k, rfl⟩ : ∃ k', k = k' + 1 := ⟨k - 1, by omega⟩
    have hi : i < l.length := by omega
    unfold agoniclaw05_given.l0
    rw [if_pos (by omega), if_pos (by omega), if_pos (by simp; omega), w64 (by omega) (by omega), rd_get hi]
    have e : (l.take i).map cv ++ [(⟨l[i].f0, l[i].f1⟩ : S54)] = (l.take (i + 1)).map cv := by
      rw [List.take_succ_eq_append_getElem hi, List.map_append]; rfl
    rw [e, show ((i : Int) + 1) = ((i + 1 : Nat) : Int) by omega, given_l n l (i + 1) k (by omega) hl (by omega)]
theorem given_f {l : List S55} {k : Nat} (hl : l.length < 1000000) (hk : l.length + 1 ≤ k) : agoniclaw05_given.f k l = some (l.map cv) := by
  unfold agoniclaw05_given.f
  exact given_l l.length l 0 k (by omega) hl hk
theorem ris_f (a b c : Int) : agonicref05_is.f a b c = some (decide (b ≤ a ∧ a ≤ c)) := by
  unfold agonicref05_is.f agonicref01_Is.f
  by_cases h : a ≥ b
  · rw [if_pos h]
    have : b ≤ a := h
    simp [this]
  · rw [if_neg h]
    have : ¬ b ≤ a := h
    simp [this]
theorem rheading_f (a : Int) : agonicref05_heading.f a = some (decide (0 ≤ a ∧ a < 3600)) := by
  unfold agonicref05_heading.f
  rw [ris_f, Option.bind_some]
  have : (0 ≤ a ∧ a ≤ 3599) = (0 ≤ a ∧ a < 3600) := by apply propext; omega
  simp only [this]
theorem rcheck_l : ∀ (n : Nat) (l : List S55) (i : Nat) (k : Nat) (last : Int), i + n = l.length → l.length < 1000000 → 3 * n + 3 ≤ k → (i = 0 → last = -1) → (∀ j, j + 1 = i → ∀ h : j < l.length, last = l[j].f0) → agonicref05_Check.l0 k (l.map cv) (i : Int) = some (chk last (l.drop i))
  | 0, l, i, k, last, h, hl, hk, _, _ => by
    obtain ⟨k, rfl⟩ : ∃ k', k = k' + 1 := ⟨k - 1, by omega⟩
    unfold agonicref05_Check.l0
    rw [if_neg (by simp; omega), List.drop_of_length_le (by omega)]
    rfl
  | n + 1, l, i, k, last, h, hl, hk, h0, h1 => by
    obtain ⟨k, rfl⟩ : ∃ k', k = k' + 3 := ⟨k - 3, by omega⟩
    have hi : i < l.length := by omega
    unfold agonicref05_Check.l0
    rw [if_pos (by simp; omega), if_pos (by omega), rd_cv hi]
    simp only [rheading_f, ris_f, Option.bind_some, decide_eq_true_eq]
    have hj : ∀ b, agonicref05_Check.j1 (k + 2) (l.map cv) (i : Int) b = some (if b = true then 1 else if l[i].f0 = last then 7 else if l[i].f0 < last then 5 else chk l[i].f0 (l.drop (i + 1))) ∨ ¬ (0 ≤ l[i].f0 ∨ 0 < i) := by
      intro b
      by_cases hok : 0 ≤ l[i].f0 ∨ 0 < i
      · refine .inl ?_
        have hnext := rcheck_l n l (i + 1) k l[i].f0 (by omega) hl (by omega) (by omega) (fun j hj _ => by
          obtain rfl : j = i := by omega
          rfl)
        conv => lhs; unfold agonicref05_Check.j1
        by_cases hb : b = true
        · rw [if_pos hb, if_pos hb]
        · rw [if_neg hb, if_neg hb]
          rcases Nat.eq_zero_or_pos i with hz | hz
          · subst hz
            have hl0 := h0 rfl
            subst hl0
            rw [if_neg (by omega)]
            conv => lhs; unfold agonicref05_Check.j2
            rw [if_neg (by decide), if_neg (by omega), if_neg (by omega), if_neg (by omega), w64 (by omega) (by omega)]
            exact hnext
          · obtain ⟨j, rfl⟩ : ∃ j, i = j + 1 := ⟨i - 1, by omega⟩
            have hlast := h1 j rfl (by omega)
            have ew : wrap64 (((j + 1 : Nat) : Int) - 1) = (j : Int) := by rw [w64 (by omega) (by omega)]; omega
            rw [if_pos (by omega), if_pos (by omega), if_pos (by simp; omega), ew, if_pos (by omega), if_pos (by simp; omega), rd_cv hi, rd_cv (by omega)]
            conv => lhs; unfold agonicref05_Check.j2
            have ef : ((cv l[j + 1]).f0 == (cv l[j]).f0) = decide (l[j + 1].f0 = last) := by
              rw [hlast]; rfl
            rw [ef]
            by_cases h7 : l[j + 1].f0 = last
            · rw [if_pos (by simpa using h7), if_pos h7]
            · rw [if_neg (by simpa using h7), if_neg h7, if_pos (by omega), if_pos (by omega), if_pos (by simp; omega), ew, if_pos (by omega), if_pos (by simp; omega), rd_cv hi, rd_cv (by omega)]
              have e5 : ((cv l[j + 1]).f0 < (cv l[j]).f0) = (l[j + 1].f0 < last) := by rw [hlast]; rfl
              simp only [e5]
              by_cases h5 : l[j + 1].f0 < last
              · rw [if_pos h5, if_pos h5]
              · rw [if_neg h5, if_neg h5, w64 (by omega) (by omega)]
                exact hnext
      · exact .inr hok
    rw [List.drop_eq_getElem_cons hi]
    have hcv0 : (cv l[i]).f0 = l[i].f0 := rfl
    have hcv1 : (cv l[i]).f1 = l[i].f1 := rfl
    rw [hcv0, hcv1]
    have htrue : agonicref05_Check.j1 (k + 2) (l.map cv) (i : Int) true = some 1 := by
      unfold agonicref05_Check.j1
      rw [if_pos rfl]
    simp only [chk]
    by_cases hp : 0 ≤ l[i].f0 ∧ l[i].f0 < 3600
    · rw [if_pos hp]
      rcases hj (!decide (-900 ≤ l[i].f1 ∧ l[i].f1 ≤ 900)) with e | e
      · rw [e]
        by_cases hq : -900 ≤ l[i].f1 ∧ l[i].f1 ≤ 900
        · rw [if_neg (by simp [hq]), if_neg (show ¬ ¬ (0 ≤ l[i].f0 ∧ l[i].f0 < 3600 ∧ -900 ≤ l[i].f1 ∧ l[i].f1 ≤ 900) from fun hn => hn ⟨hp.1, hp.2, hq.1, hq.2⟩)]
        · rw [if_pos (by simp only [Bool.not_eq_true', decide_eq_false_iff_not]; exact hq), if_pos (show ¬ (0 ≤ l[i].f0 ∧ l[i].f0 < 3600 ∧ -900 ≤ l[i].f1 ∧ l[i].f1 ≤ 900) from fun hn => hq ⟨hn.2.2.1, hn.2.2.2⟩)]
      · exact absurd (.inl hp.1) e
    · rw [if_neg hp, htrue, if_pos (show ¬ (0 ≤ l[i].f0 ∧ l[i].f0 < 3600 ∧ -900 ≤ l[i].f1 ∧ l[i].f1 ≤ 900) from fun hn => hp ⟨hn.1, hn.2.1⟩)]
theorem rCheck_f {l : List S55} {k : Nat} (hl : l.length < 1000000) (hk : 3 * l.length + 3 ≤ k) : agonicref05_Check.f k (l.map cv) = some (chkAll l) := by
  unfold agonicref05_Check.f chkAll
  rw [List.length_map]
  by_cases h1 : l.length = 0
  · rw [if_pos (by omega), if_pos h1]
  · rw [if_neg (by omega), if_neg h1]
    by_cases h2 : l.length > 36
    · rw [if_pos (by omega), if_pos h2]
    · rw [if_neg (by omega), if_neg h2]
      have := rcheck_l l.length l 0 k (-1) (by omega) hl hk (fun _ => rfl) (fun j hj => by omega)
      rw [List.drop_zero] at this
      exact this
end Go.Proofs.Ytccjefoejjnccaa.M
