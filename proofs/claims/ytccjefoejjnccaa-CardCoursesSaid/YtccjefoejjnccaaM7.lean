/- What is proved here: the compass courses of a heading that the program tells are those of all hits, sorted. -/
import Derived.Test.YtccjefoejjnccaaM6
namespace Go.Proofs.Ytccjefoejjnccaa.M
open Go.Proofs.Ytccjefoejjnccaa Go.RowKit Go.Proofs.Ytccjefoejjnccaa.C Go.Proofs.Ytccjefoejjnccaa.H Go.Proofs.YtccjefoejjnccaaW.PrintWords Go.Proofs.YtccjefoejjnccaaW.PrintLast Go.Proofs.YtccjefoejjnccaaW.PrintMore
set_option linter.unusedSimpArgs false
set_option linter.unusedVariables false
/-- The numbers s, s + 3600, .. (n of them) that fit. -/
def runM (P : Int → Bool) (s : Int) : Nat → List Int
  | 0 => []
  | n + 1 => runM P s n ++ if P (s + 3600 * (n : Int)) then [s + 3600 * (n : Int)] else []
theorem run_succ (P : Int → Bool) (s : Int) (n : Nat) : runM P s (n + 1) = runM P s n ++ if P (s + 3600 * (n : Int)) then [s + 3600 * (n : Int)] else [] := rfl
theorem run_tail {P : Int → Bool} {s : Int} {n : Nat} : ∀ m, n ≤ m → (∀ i, n ≤ i → i < m → P (s + 3600 * (i : Int)) = false) → runM P s m = runM P s n
  | 0, h, _ => by obtain rfl : n = 0 := by omega
                  rfl
  | m + 1, h, hP => by
    rcases Nat.lt_or_eq_of_le h with h1 | rfl
    · rw [run_succ, hP m (by omega) (by omega), run_tail m (by omega) (fun i h1 h2 => hP i h1 (by omega))]
      simp
    · rfl
theorem run_none {P : Int → Bool} {s : Int} (m : Nat) (hP : ∀ i, i < m → P (s + 3600 * (i : Int)) = false) : runM P s m = [] :=
  run_tail (n := 0) m (by omega) (fun i _ h => hP i h)
theorem run_add {P : Int → Bool} {s : Int} (j : Nat) : ∀ r, runM P s (j + r) = runM P s j ++ runM P (s + 3600 * (j : Int)) r
  | 0 => by simp [runM]
  | r + 1 => by
    have e : s + 3600 * (j : Int) + 3600 * (r : Int) = s + 3600 * ((j + r : Nat) : Int) := by omega
    rw [← Nat.add_assoc, run_succ, run_add j r, run_succ, e, List.append_assoc]
theorem run_congr {P P' : Int → Bool} {s : Int} : ∀ n : Nat, (∀ i, i < n → P (s + 3600 * (i : Int)) = P' (s + 3600 * (i : Int))) → runM P s n = runM P' s n
  | 0, _ => rfl
  | n + 1, h => by
    rw [run_succ, run_succ, run_congr n (fun i hi => h i (by omega)), h n (by omega)]
theorem run_mem {P : Int → Bool} {s : Int} {x : Int} : ∀ n : Nat, x ∈ runM P s n ↔ ∃ i : Nat, i < n ∧ x = s + 3600 * (i : Int) ∧ P x = true
  | 0 => by simp [runM]
  | n + 1 => by
    rw [run_succ, List.mem_append, run_mem n]
    constructor
    · rintro (⟨i, hi, e⟩ | h)
      · exact ⟨i, by omega, e⟩
      · split at h
        · rename_i hp
          obtain rfl : x = s + 3600 * (n : Int) := by simpa using h
          exact ⟨n, by omega, rfl, hp⟩
        · simp at h
    · rintro ⟨i, hi, e, hp⟩
      rcases Nat.lt_or_ge i n with h | h
      · exact .inl ⟨i, h, e, hp⟩
      · obtain rfl : i = n := by omega
        refine .inr ?_
        rw [← e, if_pos hp]; simp
/-- The magnetic courses that are met on segment i, with turns from -2 to 2. -/
def hitsM (l : List S55) (mag : Int) (i : Nat) : List Int := runM (inSeg l i) (mag - 7200) 5
/-- All compass headings of segment i have the magnetic course. -/
def flatS (l : List S55) (mag : Int) (i : Nat) : Prop := cr l i = cr l (i + 1) ∧ ∃ t : Nat, t < 5 ∧ cr l i = mag - 7200 + 3600 * (t : Int)
theorem solM_eq {l : List S55} (h : Valid l) {i : Nat} (hi : i < l.length) {mag : Int} (h0 : 0 ≤ mag) (h1 : mag < 3600) :
    ∃ j : Nat, 1 ≤ j ∧ j ≤ 5 ∧ (∀ n, solM mag (seg l i) n = mag - 7200 + 3600 * ((j + n : Nat) : Int)) ∧ solM mag (seg l i) 0 - 3600 < segLo (seg l i) ∧ segLo (seg l i) ≤ solM mag (seg l i) 0 ∧
      segLo (seg l i) = (if cr l i ≤ cr l (i + 1) then cr l i else cr l (i + 1)) ∧ segHi (seg l i) = (if cr l i ≤ cr l (i + 1) then cr l (i + 1) else cr l i) := by
  have c1 := h.cr_bd (show i ≤ l.length by omega)
  have c2 := h.cr_bd (show i + 1 ≤ l.length by omega)
  have e1 : segLo (seg l i) = (if cr l i ≤ cr l (i + 1) then cr l i else cr l (i + 1)) := by
    unfold segLo; rw [seg_eq h hi]; dsimp only; unfold mn cr; split <;> split <;> omega
  have e2 : segHi (seg l i) = (if cr l i ≤ cr l (i + 1) then cr l (i + 1) else cr l i) := by
    unfold segHi; rw [seg_eq h hi]; dsimp only; unfold mx cr; split <;> split <;> omega
  have b : -900 ≤ segLo (seg l i) ∧ segLo (seg l i) < 8100 := by rw [e1]; split <;> omega
  have k0 := Int.emod_nonneg (mag - segLo (seg l i)) (b := 3600) (by omega)
  have k1 := Int.emod_lt_of_pos (mag - segLo (seg l i)) (b := 3600) (by omega)
  have k2 := Int.emod_add_mul_ediv (mag - segLo (seg l i)) 3600
  refine ⟨(2 - (mag - segLo (seg l i)) / 3600).toNat, by omega, by omega, fun n => ?_, ?_, ?_, e1, e2⟩
  · unfold solM; omega
  · unfold solM; omega
  · unfold solM; omega
theorem solN_spec {mag : Int} {x : S55 × S55} : (∀ n, n < solN mag x → solM mag x n ≤ segHi x) ∧ ∀ n, solN mag x ≤ n → segHi x < solM mag x n := by
  have hs : ∀ n, solM mag x n = solM mag x 0 + 3600 * (n : Int) := fun n => by unfold solM; omega
  unfold solN
  constructor <;> intro n hn <;> rw [hs n] <;> omega
/-- What the program goes through on a segment are its hits. -/
theorem run_hits {l : List S55} (h : Valid l) {i : Nat} (hi : i < l.length) {mag : Int} (h0 : 0 ≤ mag) (h1 : mag < 3600) (hne : cr l i ≠ cr l (i + 1)) :
    runM (fun m => decide (m ≠ cr l (i + 1))) (solM mag (seg l i) 0) (solN mag (seg l i)) = hitsM l mag i ∧ ∀ n, n < solN mag (seg l i) → (solM mag (seg l i) n ≠ cr l (i + 1) → inSeg l i (solM mag (seg l i) n) = true) := by
  obtain ⟨j, j1, j5, hs, s0, s1, e1, e2⟩ := solM_eq h hi h0 h1
  obtain ⟨n1, n2⟩ := solN_spec (mag := mag) (x := seg l i)
  have c2 := h.cr_bd (show i + 1 ≤ l.length by omega)
  have c1 := h.cr_bd (show i ≤ l.length by omega)
  have hin : ∀ m, inSeg l i m = true ↔ segLo (seg l i) ≤ m ∧ m ≤ segHi (seg l i) ∧ m ≠ cr l (i + 1) := by
    intro m
    rw [inSeg_iff, e1, e2]
    split <;> omega
  have hge : ∀ n : Nat, segLo (seg l i) ≤ solM mag (seg l i) n := fun n => by
    have a := hs n; have b := hs 0; omega
  have hN : solN mag (seg l i) ≤ 5 - j := by
    rcases Nat.lt_or_ge (5 - j) (solN mag (seg l i)) with hlt | hge'
    · have a := n1 (5 - j) hlt
      rw [hs (5 - j), e2] at a
      have : j + (5 - j) = 5 := by omega
      rw [this] at a
      split at a <;> omega
    · exact hge'
  refine ⟨?_, fun n hn hx => (hin _).2 ⟨hge n, n1 n hn, hx⟩⟩
  unfold hitsM
  have e5 : 5 = j + (5 - j) := by omega
  rw [e5, run_add]
  rw [run_none j (fun t ht => by
    rcases hb : inSeg l i (mag - 7200 + 3600 * (t : Int)) with _ | _
    · rfl
    · have a := ((hin _).1 hb).1
      have b := hs 0
      omega)]
  rw [List.nil_append]
  have es : mag - 7200 + 3600 * (j : Int) = solM mag (seg l i) 0 := (hs 0).symm
  rw [es, run_tail (n := solN mag (seg l i)) (5 - j) hN (fun t ht1 ht2 => by
    rcases hb : inSeg l i (solM mag (seg l i) 0 + 3600 * (t : Int)) with _ | _
    · rfl
    · have a := ((hin _).1 hb).2.1
      have b := n2 t ht1
      have c := hs t
      have d := hs 0
      omega)]
  refine run_congr _ fun t ht => ?_
  have c := hs t
  have d := hs 0
  have et : solM mag (seg l i) 0 + 3600 * (t : Int) = solM mag (seg l i) t := by omega
  rw [et]
  by_cases hx : solM mag (seg l i) t = cr l (i + 1)
  · rw [decide_eq_false (fun hn => hn hx)]
    rcases hb : inSeg l i (solM mag (seg l i) t) with _ | _
    · rfl
    · exact absurd hx ((hin _).1 hb).2.2
  · rw [decide_eq_true hx, (hin _).2 ⟨hge t, n1 t ht, hx⟩]
theorem flatHit_iff {l : List S55} (h : Valid l) {i : Nat} (hi : i < l.length) {mag : Int} (h0 : 0 ≤ mag) (h1 : mag < 3600) : flatHit mag (seg l i) = true ↔ flatS l mag i := by
  obtain ⟨j, j1, j5, hs, s0, s1, e1, e2⟩ := solM_eq h hi h0 h1
  obtain ⟨n1, n2⟩ := solN_spec (mag := mag) (x := seg l i)
  have c1 := h.cr_bd (show i ≤ l.length by omega)
  unfold flatHit flatS
  rw [decide_eq_true_eq, e1, e2]
  rw [e1] at s0 s1
  constructor
  · rintro ⟨a, b⟩
    have c := n1 0 b
    rw [e2] at c
    have d := hs 0
    refine ⟨by split at a <;> omega, j, ?_, ?_⟩
    · split at a <;> split at c <;> split at s0 <;> omega
    · split at a <;> split at c <;> split at s0 <;> omega
  · rintro ⟨a, t, ht, hb⟩
    refine ⟨by split <;> omega, ?_⟩
    rcases Nat.eq_zero_or_pos (solN mag (seg l i)) with hz | hz
    · have c := n2 0 (by omega)
      have d := hs 0
      rw [e2] at c
      split at c <;> split at s0 <;> omega
    · exact hz
theorem solsTo_run {l : List S55} (h : Valid l) {i : Nat} (hi : i < l.length) {k : Nat} (hk : 132 ≤ k) {mag : Int} (hall : ∀ n, n < solN mag (seg l i) → (solM mag (seg l i) n ≠ cr l (i + 1) → inSeg l i (solM mag (seg l i) n) = true)) :
    ∀ n, n ≤ solN mag (seg l i) → solsTo k mag (seg l i) n = some ((runM (fun m => decide (m ≠ cr l (i + 1))) (solM mag (seg l i) 0) n).map (crs l i))
  | 0, _ => rfl
  | n + 1, hn => by
    have hs : solM mag (seg l i) n = solM mag (seg l i) 0 + 3600 * (n : Int) := by unfold solM; omega
    have he : (seg l i).2.f0 + (seg l i).2.f1 = cr l (i + 1) := by rw [seg_eq h hi]; rfl
    unfold solsTo
    rw [run_succ, solsTo_run h hi hk hall n (by omega), Option.bind_some, he, ← hs]
    by_cases hx : solM mag (seg l i) n = cr l (i + 1)
    · rw [if_pos hx, decide_eq_false (fun hn => hn hx)]
      simp
    · rw [if_neg hx, decide_eq_true hx, (courseAt_crs h hi hk (hall n (by omega) hx)).1]
      simp
theorem segSols_f {l : List S55} (h : Valid l) {i : Nat} (hi : i < l.length) {k : Nat} (hk : 132 ≤ k) {mag : Int} (h0 : 0 ≤ mag) (h1 : mag < 3600) (hf : ¬ flatS l mag i) :
    segSols k mag (seg l i) = some ((hitsM l mag i).map (crs l i)) := by
  unfold segSols
  by_cases hne : cr l i = cr l (i + 1)
  · -- even, and not met
    have hn : solN mag (seg l i) = 0 := by
      obtain ⟨j, j1, j5, hs, s0, s1, e1, e2⟩ := solM_eq h hi h0 h1
      have : flatHit mag (seg l i) = false := by
        rcases hb : flatHit mag (seg l i) with _ | _
        · rfl
        · exact absurd ((flatHit_iff h hi h0 h1).1 hb) hf
      unfold flatHit at this
      rw [decide_eq_false_iff_not, e1, e2] at this
      rcases Nat.eq_zero_or_pos (solN mag (seg l i)) with hz | hz
      · exact hz
      · exact absurd ⟨by split <;> omega, hz⟩ this
    have : hitsM l mag i = [] := run_none 5 (fun t ht => by
      rcases hb : inSeg l i (mag - 7200 + 3600 * (t : Int)) with _ | _
      · rfl
      · rw [inSeg_iff] at hb; omega)
    rw [hn, this]; rfl
  · obtain ⟨e, hall⟩ := run_hits h hi h0 h1 hne
    rw [solsTo_run h hi hk hall _ (Nat.le_refl _), e]
/-- All hits, segment by segment. -/
def allC (l : List S55) (mag : Int) (n : Nat) : List S101 := (List.range n).flatMap fun i => (hitsM l mag i).map (crs l i)
theorem allC_succ (l : List S55) (mag : Int) (n : Nat) : allC l mag (n + 1) = allC l mag n ++ (hitsM l mag n).map (crs l n) := by
  unfold allC
  rw [List.range_succ, List.flatMap_append]
  simp
theorem solsAll_f {l : List S55} (h : Valid l) {k : Nat} (hk : 132 ≤ k) {mag : Int} (h0 : 0 ≤ mag) (h1 : mag < 3600) (hf : ∀ i, i < l.length → ¬ flatS l mag i) : solsAll k mag (segs l) = allC l mag l.length := by
  unfold solsAll allC segs
  rw [List.flatMap_map, List.flatMap_def, List.flatMap_def]
  congr 1
  refine List.map_congr_left fun i hi => ?_
  rw [segSols_f h (List.mem_range.1 hi) hk h0 h1 (hf i (List.mem_range.1 hi))]
  rfl
theorem hits_mem {l : List S55} {mag m : Int} {i : Nat} : m ∈ hitsM l mag i ↔ (∃ t : Nat, t < 5 ∧ m = mag - 7200 + 3600 * (t : Int)) ∧ inSeg l i m = true := by
  unfold hitsM
  rw [run_mem]
  constructor
  · rintro ⟨t, a, b, c⟩; exact ⟨⟨t, a, b⟩, c⟩
  · rintro ⟨⟨t, a, b⟩, c⟩; exact ⟨t, a, b, c⟩
theorem allC_mem {l : List S55} {mag : Int} {n : Nat} {r : S101} : r ∈ allC l mag n ↔ ∃ i, i < n ∧ ∃ m, m ∈ hitsM l mag i ∧ r = crs l i m := by
  unfold allC
  rw [List.mem_flatMap]
  constructor
  · rintro ⟨i, hi, hr⟩
    obtain ⟨m, hm, rfl⟩ := List.mem_map.1 hr
    exact ⟨i, List.mem_range.1 hi, m, hm, rfl⟩
  · rintro ⟨i, hi, m, hm, rfl⟩
    exact ⟨i, List.mem_range.2 hi, List.mem_map.2 ⟨m, hm, rfl⟩⟩
theorem hits_len (l : List S55) (mag : Int) (i : Nat) : (hitsM l mag i).length ≤ 5 := by
  have : ∀ (P : Int → Bool) s n, (runM P s n).length ≤ n := by
    intro P s n
    induction n with
    | zero => simp [runM]
    | succ n ih => rw [run_succ, List.length_append]; split <;> simp <;> omega
  exact this _ _ 5
theorem allC_len (l : List S55) (mag : Int) (n : Nat) : (allC l mag n).length ≤ 5 * n := by
  induction n with
  | zero => simp [allC]
  | succ n ih =>
    have := hits_len l mag n
    rw [allC_succ, List.length_append, List.length_map]
    omega
/-- A fraction of a turn, reduced. -/
def FrR (r : S101) : Prop := 1 ≤ r.f1 ∧ r.f1 ≤ 5400 ∧ 0 ≤ r.f0 ∧ r.f0 < 3600 * r.f1 ∧ Int.gcd r.f0 r.f1 = 1
theorem allC_fr {l : List S55} (h : Valid l) {mag : Int} {r : S101} (hr : r ∈ allC l mag l.length) : FrR r := by
  obtain ⟨i, hi, m, hm, rfl⟩ := allC_mem.1 hr
  obtain ⟨_, _, a, b, c, d, e⟩ := courseAt_crs h hi (Nat.le_refl 132) (hits_mem.1 hm).2
  exact ⟨a, b, c, d, e⟩
theorem FrR.ok {r : S101} (h : FrR r) : okR r = true := by
  obtain ⟨a, b, c, d, e⟩ := h
  unfold okR
  rw [decide_eq_true_eq]
  exact ⟨a, by omega, by omega, by omega, e⟩
theorem courses_f {l : List S55} (h : Valid l) {k : Nat} (hk : 132 ≤ k) {mag : Int} (h0 : 0 ≤ mag) (h1 : mag < 3600) :
    (∃ i, i < l.length ∧ flatS l mag i) ∧ card_Card_courses.f k l mag = some ([], false) ∨ (∀ i, i < l.length → ¬ flatS l mag i) ∧ card_Card_courses.f k l mag = some ((allC l mag l.length).mergeSort (fun x y => !ltR y x), true) := by
  have hpt : l.all ptB = true := by
    rw [List.all_eq_true]
    intro p hp
    obtain ⟨i, hi, rfl⟩ := List.getElem_of_mem hp
    have a := h.hr i hi
    have b := h.dr i
    unfold hd at a; unfold dv at b
    rw [if_pos hi, getD_lt hi] at a b
    unfold ptB
    rw [decide_eq_true_eq]
    omega
  have hsome : (segs l).all (fun x => flatHit mag x || (segSols k mag x).isSome) = true := by
    rw [List.all_eq_true]
    intro x hx
    obtain ⟨i, hi, rfl⟩ := segs_mem hx
    by_cases hf : flatS l mag i
    · rw [(flatHit_iff h hi h0 h1).2 hf]; rfl
    · rw [segSols_f h hi hk h0 h1 hf]; simp
  have hp := h.pos
  have hle := h.le
  unfold card_Card_courses.f
  rw [if_pos ⟨h.pos, by omega, h0, h1, hpt, hsome⟩]
  by_cases hf : ∃ i, i < l.length ∧ flatS l mag i
  · refine .inl ⟨hf, ?_⟩
    obtain ⟨i, hi, hfi⟩ := hf
    rw [if_pos]
    rw [List.any_eq_true]
    exact ⟨seg l i, List.mem_map.2 ⟨i, List.mem_range.2 hi, rfl⟩, (flatHit_iff h hi h0 h1).2 hfi⟩
  · have hf' : ∀ i, i < l.length → ¬ flatS l mag i := fun i hi hx => hf ⟨i, hi, hx⟩
    refine .inr ⟨hf', ?_⟩
    rw [if_neg, solsAll_f h hk h0 h1 hf', if_pos]
    · rw [Bool.and_eq_true, List.all_eq_true, decide_eq_true_eq]
      have := allC_len l mag l.length
      exact ⟨fun r hr => (allC_fr h hr).ok, by omega⟩
    · rw [Bool.not_eq_true, List.any_eq_false]
      intro x hx
      obtain ⟨i, hi, rfl⟩ := segs_mem hx
      intro hc
      exact hf' i hi ((flatHit_iff h hi h0 h1).1 hc)
end Go.Proofs.Ytccjefoejjnccaa.M
