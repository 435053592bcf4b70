/- What is proved here: compass courses and allowances are told alike by the program and the reference. -/
import Derived.Test.YtccjefoejjnccaaM8
import Derived.Test.YtccjefoejjnccaaC13
namespace Go.Proofs.Ytccjefoejjnccaa.M
open Go.Proofs.Ytccjefoejjnccaa Go.RowKit Go.Proofs.Ytccjefoejjnccaa.C Go.Proofs.Ytccjefoejjnccaa.H Go.Proofs.YtccjefoejjnccaaW.PrintWords Go.Proofs.YtccjefoejjnccaaW.PrintLast Go.Proofs.YtccjefoejjnccaaW.PrintMore
set_option linter.unusedSimpArgs false
set_option linter.unusedVariables false
theorem allC29_fr {l : List S55} (h : Valid l) {mag : Int} {n : Nat} (hn : n ≤ l.length) {r : S29} (hr : r ∈ (allC l mag n).map c29) : Fr29 r := by
  obtain ⟨s, hs, rfl⟩ := List.mem_map.1 hr
  obtain ⟨i, hi, m, hm, rfl⟩ := allC_mem.1 hs
  exact c29_fr h (by omega) (hits_mem.1 hm).2
/-- All segments of the reference from i on. -/
theorem rseg_l {l : List S55} (h : Valid l) {mag : Int} (h0 : 0 ≤ mag) (h1 : mag < 3600) (B : Nat) (hB : 1010 ≤ B) :
    ∀ (n i : Nat) (acc : List S29) (k : Nat), i + n = l.length → 310 + n * B ≤ k → acc.Perm ((allC l mag i).map c29) → acc.Pairwise leF →
    ((∃ j, i ≤ j ∧ j < l.length ∧ flatS l mag j) ∧ agonicref05_Courses.l0 k (l.map cv) mag acc (i : Int) = some ([], 16)) ∨
    ((∀ j, i ≤ j → j < l.length → ¬ flatS l mag j) ∧ ∃ ys, agonicref05_Courses.l0 k (l.map cv) mag acc (i : Int) = some (ys, 0) ∧ ys.Perm ((allC l mag l.length).map c29) ∧ ys.Pairwise leF)
  | 0, i, acc, k, hi, hk, hp, hs => by
    obtain ⟨k, rfl⟩ : ∃ k', k = k' + 1 := ⟨k - 1, by omega⟩
    obtain rfl : i = l.length := by omega
    refine .inr ⟨fun j h1 h2 => by omega, acc, ?_, hp, hs⟩
    simp only [agonicref05_Courses.l0]
    rw [List.length_map, if_neg (by omega)]
  | n + 1, i, acc, k, hi, hk, hp, hs => by
    obtain ⟨k, rfl⟩ : ∃ k', k = k' + 1 := ⟨k - 1, by omega⟩
    have hle := h.le
    have hmulB : (n + 1) * B = n * B + B := by rw [Nat.add_mul, Nat.one_mul]
    have hi' : i < l.length := by omega
    have hal : acc.length ≤ 5 * i := by
      rw [hp.length_eq, List.length_map]
      exact allC_len l mag i
    have estep : agonicref05_Courses.l0 (k + 1) (l.map cv) mag acc (i : Int) = agonicref05_Courses.l1 k (l.map cv) mag acc (i : Int) (((0 : Nat) : Int) - 2) (hd l i) (dv l i) (hd l (i + 1)) (dv l (i + 1)) := by
      conv => lhs; simp only [agonicref05_Courses.l0]
      rw [List.length_map, if_pos (by omega), rseg_f h hi', Option.bind_some]
      rfl
    rcases rturn_l h hi' h0 h1 5 0 acc k (by omega) (by omega) (by omega) (fun r hr => allC29_fr h (n := i) (by omega) (hp.mem_iff.1 hr)) hs with ⟨q1, ⟨t, _, q3, q4⟩, q5⟩ | ⟨q1, ys, k', q2, q3, q4, q5, q6⟩
    · exact .inl ⟨⟨i, Nat.le_refl _, hi', q1, t, q3, q4⟩, estep.trans q5⟩
    · have hnf : ¬ flatS l mag i := fun ⟨r1, t, r2, r3⟩ => q1 ⟨r1, t, Nat.zero_le _, r2, r3⟩
      have hp' : ys.Perm ((allC l mag (i + 1)).map c29) := by
        refine q5.trans ?_
        rw [allC_succ, List.map_append, List.map_map]
        have e : mag - 7200 + 3600 * ((0 : Nat) : Int) = mag - 7200 := by omega
        rw [e]
        exact List.Perm.append_right _ hp
      rcases rseg_l h h0 h1 B hB n (i + 1) ys k' (by omega) (by omega) hp' q6 with ⟨⟨j, w1, w2, w3⟩, w4⟩ | ⟨w1, zs, w2, w3, w4⟩
      · exact .inl ⟨⟨j, by omega, w2, w3⟩, (estep.trans q4).trans w4⟩
      · refine .inr ⟨fun j j1 j2 => ?_, zs, (estep.trans q4).trans w2, w3, w4⟩
        rcases Nat.eq_or_lt_of_le j1 with rfl | j3
        · exact hnf
        · exact w1 j (by omega) j2
theorem sorted_prog {l : List S55} (h : Valid l) {mag : Int} : ((allC l mag l.length).mergeSort (fun x y => !ltR y x)).Pairwise (fun a b => leF (c29 a) (c29 b)) := by
  rw [← sort_attach ltR, List.pairwise_map]
  have hlt : ∀ (x y : { x // x ∈ allC l mag l.length }), (!ltR y.1 x.1) = true ↔ leF (c29 x.1) (c29 y.1) := by
    intro x y
    rw [ltR_eq (allC_fr h y.2).ok (allC_fr h x.2).ok]
    unfold leF c29
    simp
  have hfr : ∀ (x : { x // x ∈ allC l mag l.length }), Fr29 (c29 x.1) := fun x => allC29_fr h (Nat.le_refl _) (List.mem_map.2 ⟨x.1, x.2, rfl⟩)
  refine (List.pairwise_mergeSort (le := fun (x y : { x // x ∈ allC l mag l.length }) => !ltR y.1 x.1) (fun a b c h1 h2 => ?_) (fun a b => ?_) _).imp (fun {a b} hab => (hlt a b).1 hab)
  · exact (hlt a c).2 (leF_trans (hfr a) (hfr b) (hfr c) ((hlt a b).1 h1) ((hlt b c).1 h2))
  · rw [Bool.or_eq_true]
    rcases leF_total (c29 a.1) (c29 b.1) with h1 | h1
    · exact .inl ((hlt a b).2 h1)
    · exact .inr ((hlt b a).2 h1)
theorem cout_l : ∀ (n : Nat) (xs : List S101) (i : Nat) (k : Nat), i + n = xs.length → xs.length < 1000000 → n + 1 ≤ k → card_Courses.l0 k ((xs.take i).map c29) xs (xs.length : Int) (i : Int) = some (xs.map c29, 0)
  | 0, xs, i, k, hi, hl, hk => by
    obtain ⟨k, rfl⟩ : ∃ k', k = k' + 1 := ⟨k - 1, by omega⟩
    simp only [card_Courses.l0]
    rw [if_neg (by omega), List.take_of_length_le (by omega)]
  | n + 1, xs, i, k, hi, hl, hk => by
    obtain ⟨k, rfl⟩ : ∃ k', k = k' + 1 := ⟨k - 1, by omega⟩
    have hi' : i < xs.length := by omega
    have e : (xs.take i).map c29 ++ [c29 xs[i]] = (xs.take (i + 1)).map c29 := by
      rw [List.take_succ_eq_append_getElem hi', List.map_append]; rfl
    have r : rd_T101 xs (i : Int) = xs[i] := by
      unfold rd_T101
      rw [List.getD_eq_getElem?_getD, Int.toNat_natCast, List.getElem?_eq_getElem hi']; rfl
    have ih := cout_l n xs (i + 1) k (by omega) hl (by omega)
    rw [← e] at ih
    simp only [card_Courses.l0]
    rw [if_pos (by omega), if_pos (by omega), if_pos (by omega), r]
    show (if ((xs.take i).map c29).length < 8796093022208 then _ else _) = _
    rw [if_pos (by simp; omega), w64 (by omega) (by omega)]
    exact ih
/-- The compass courses of a heading, as both tell them. -/
theorem Courses_is {l : List S55} (h : Valid l) {k : Nat} (hk : 40000 ≤ k) {mag : Int} (h0 : 0 ≤ mag) (h1 : mag < 3600) :
    ((∃ i, i < l.length ∧ flatS l mag i) ∧ card_Card_courses.f k l mag = some ([], false) ∧ agonicref05_Courses.l0 k (l.map cv) mag [] 0 = some ([], 16)) ∨
    ((∀ i, i < l.length → ¬ flatS l mag i) ∧ ∃ xs : List S101, card_Card_courses.f k l mag = some (xs, true) ∧ agonicref05_Courses.l0 k (l.map cv) mag [] 0 = some (xs.map c29, 0) ∧ xs.Perm (allC l mag l.length) ∧ xs.Pairwise (fun a b => leF (c29 a) (c29 b))) := by
  have hle := h.le
  have hr := rseg_l h h0 h1 1010 (Nat.le_refl _) l.length 0 [] k (by omega) (by omega) (by simp [allC]) List.Pairwise.nil
  rcases courses_f h (k := k) (by omega) h0 h1 with ⟨hf, e⟩ | ⟨hf, e⟩
  · refine .inl ⟨hf, e, ?_⟩
    rcases hr with ⟨_, q⟩ | ⟨q, _⟩
    · exact q
    · obtain ⟨i, hi, hx⟩ := hf
      exact absurd hx (q i (Nat.zero_le _) hi)
  · refine .inr ⟨hf, _, e, ?_, List.mergeSort_perm _ _, sorted_prog h⟩
    rcases hr with ⟨⟨j, _, j2, j3⟩, _⟩ | ⟨_, ys, q1, q2, q3⟩
    · exact absurd j3 (hf j j2)
    · rw [← Int.natCast_zero, q1]
      congr 2
      have hp : ys.Perm (((allC l mag l.length).mergeSort (fun x y => !ltR y x)).map c29) := q2.trans ((List.mergeSort_perm _ _).map _).symm
      refine List.Perm.eq_of_pairwise (le := leF) (fun a b ha hb h1 h2 => ?_) q3 (by rw [List.pairwise_map]; exact sorted_prog h) hp
      have fa : Fr29 a := allC29_fr h (Nat.le_refl _) (q2.mem_iff.1 ha)
      have fb : Fr29 b := allC29_fr h (Nat.le_refl _) (q2.mem_iff.1 (hp.mem_iff.2 hb))
      exact leF_anti fa fb h1 h2
theorem rCourses_head {l : List S55} {k : Nat} (hl : l.length ≤ 60) (hk : 1000 ≤ k) (mag : Int) : agonicref05_Courses.f (k + 2) (l.map cv) mag =
    if chkAll l = 0 then (if 0 ≤ mag ∧ mag < 3600 then agonicref05_Courses.l0 k (l.map cv) mag [] 0 else some ([], 1)) else some ([], chkAll l) := by
  unfold agonicref05_Courses.f
  rw [rCheck_f (by omega) (by omega), Option.bind_some]
  by_cases h : chkAll l = 0
  · rw [if_pos h, if_pos h, rheading_f, Option.bind_some]
    by_cases hc : 0 ≤ mag ∧ mag < 3600
    · simp only [agonicref05_Courses.j0, agonicref05_Courses.j1]
      rw [if_neg (by simp [hc]), if_pos h, if_pos hc]
    · simp only [agonicref05_Courses.j0, agonicref05_Courses.j1]
      rw [if_pos (by rw [decide_eq_false hc]; rfl), if_neg (by decide), if_neg hc]
  · rw [if_neg h, if_neg h]
    simp only [agonicref05_Courses.j0, agonicref05_Courses.j1]
    rw [if_neg (by decide), if_neg h]
theorem Courses_head {l : List S55} {k : Nat} (hl : l.length ≤ 60) (hk : 1000 ≤ k) (mag : Int) : card_Courses.f k l mag =
    if chkAll l = 0 then (if 0 ≤ mag ∧ mag < 3600 then (card_Card_courses.f k l mag).bind fun b => (if b.2 = true then card_Courses.l0 k ([] : List S29) b.1 (b.1.length : Int) 0 else some ([], 16)) else some ([], 1)) else some ([], chkAll l) := by
  unfold card_Courses.f
  rw [Check_f (by omega) (by omega), Option.bind_some]
  by_cases h : chkAll l = 0
  · rw [if_pos h, if_pos h, heading_f, Option.bind_some]
    by_cases hc : 0 ≤ mag ∧ mag < 3600
    · rw [if_pos (decide_eq_true hc), if_pos hc]
    · rw [if_neg (by rw [decide_eq_false hc]; decide), if_neg hc]
  · rw [if_neg h, if_neg h]
/-- The courses of a heading, for each card. -/
theorem Courses_same {l : List S55} {k : Nat} (hl : l.length ≤ 60) (hk : 41000 ≤ k) (mag : Int) : ∃ (xs : List S29) (e : Int), card_Courses.f k l mag = some (xs, e) ∧ agonicref05_Courses.f k (l.map cv) mag = some (xs, e) ∧ xs.length ≤ 300 := by
  obtain ⟨k, rfl⟩ : ∃ k', k = k' + 2 := ⟨k - 2, by omega⟩
  rw [rCourses_head hl (by omega), Courses_head hl (by omega)]
  by_cases h : chkAll l = 0
  · rw [if_pos h, if_pos h]
    by_cases hc : 0 ≤ mag ∧ mag < 3600
    · rw [if_pos hc, if_pos hc]
      have hv := valid_of_chk h
      have mono : ∀ r, card_Card_courses.f k l mag = some r → card_Card_courses.f (k + 2) l mag = some r := fun r hr => card_Card_courses.mono _ _ _ _ (card_Card_courses.mono _ _ _ _ hr)
      rcases Courses_is hv (k := k) (by omega) hc.1 hc.2 with ⟨_, e1, e2⟩ | ⟨_, xs, e1, e2, hp, _⟩
      · refine ⟨[], 16, ?_, e2, by simp⟩
        rw [mono _ e1]; rfl
      · have hx : xs.length ≤ 300 := by
          have := allC_len l mag l.length
          have hle := hv.le
          rw [hp.length_eq]; omega
        refine ⟨xs.map c29, 0, ?_, e2, by simpa using hx⟩
        rw [mono _ e1, Option.bind_some, if_pos rfl]
        exact cout_l xs.length xs 0 (k + 2) (by omega) (by omega) (by omega)
    · rw [if_neg hc, if_neg hc]
      exact ⟨[], 1, rfl, rfl, by simp⟩
  · rw [if_neg h, if_neg h]
    exact ⟨[], chkAll l, rfl, rfl, by simp⟩
theorem ratios_l (a : List S29) (ha : a.length < 1000000) : ∀ (n : Nat) (i : Nat) (k : Nat), i + n = a.length → n + 1 ≤ k → agoniclaw05_ratios.l0 k a a (i : Int) = some true
  | 0, i, k, hi, hk => by
    obtain ⟨k, rfl⟩ : ∃ k', k = k' + 1 := ⟨k - 1, by omega⟩
    simp only [agoniclaw05_ratios.l0]
    rw [if_neg (by omega)]
  | n + 1, i, k, hi, hk => by
    obtain ⟨k, rfl⟩ : ∃ k', k = k' + 1 := ⟨k - 1, by omega⟩
    simp only [agoniclaw05_ratios.l0]
    rw [if_pos (by omega), if_pos (by omega), if_pos (by omega), if_neg (by simp), w64 (by omega) (by omega)]
    exact ratios_l a ha n (i + 1) k (by omega) (by omega)
theorem ratios_f {a : List S29} {k : Nat} (ha : a.length < 1000000) (hk : a.length + 1 ≤ k) : agoniclaw05_ratios.f k a a = some true := by
  unfold agoniclaw05_ratios.f
  rw [if_pos rfl]
  exact ratios_l a ha a.length 0 k (by omega) hk
end Go.Proofs.Ytccjefoejjnccaa.M
