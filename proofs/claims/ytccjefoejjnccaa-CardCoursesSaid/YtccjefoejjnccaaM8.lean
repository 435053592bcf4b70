/- What is proved here: the reference's compass courses are those of all hits, sorted; so program and reference tell the same. -/
import Derived.Test.YtccjefoejjnccaaM7
namespace Go.Proofs.Ytccjefoejjnccaa.M
open Go.Proofs.Ytccjefoejjnccaa Go.RowKit Go.Proofs.Ytccjefoejjnccaa.C Go.Proofs.Ytccjefoejjnccaa.H Go.Proofs.YtccjefoejjnccaaW.PrintWords Go.Proofs.YtccjefoejjnccaaW.PrintLast Go.Proofs.YtccjefoejjnccaaW.PrintMore
set_option linter.unusedSimpArgs false
set_option linter.unusedVariables false
/-- A fraction in the statements' type. -/
def c29 (r : S101) : S29 := ⟨r.f0, r.f1⟩
/-- The order of fractions. -/
def leF (a b : S29) : Prop := a.f0 * b.f1 ≤ b.f0 * a.f1
def Fr29 (r : S29) : Prop := 1 ≤ r.f1 ∧ r.f1 ≤ 5400 ∧ 0 ≤ r.f0 ∧ r.f0 < 3600 * r.f1 ∧ Int.gcd r.f0 r.f1 = 1
theorem leF_trans {a b c : S29} (ha : Fr29 a) (hb : Fr29 b) (hc : Fr29 c) (h1 : leF a b) (h2 : leF b c) : leF a c := H.frac_trans_le ha.1 hb.1 hc.1 h1 h2
theorem leF_total (a b : S29) : leF a b ∨ leF b a := by unfold leF; omega
theorem leF_anti {a b : S29} (ha : Fr29 a) (hb : Fr29 b) (h1 : leF a b) (h2 : leF b a) : a = b := by
  obtain ⟨e1, e2⟩ := H.frac_eq ha.1 hb.1 ha.2.2.2.2 hb.2.2.2.2 (Int.le_antisymm h1 h2)
  cases a; cases b
  simp only at e1 e2
  rw [e1, e2]
theorem prod29 {a b : S29} (ha : Fr29 a) (hb : Fr29 b) : 0 ≤ a.f0 * b.f1 ∧ a.f0 * b.f1 ≤ 104976000000 := by
  have := prod_le ha.2.2.1 (show a.f0 ≤ 19440000 by have := ha.2.1; have := ha.2.2.2.1; omega) (show 0 ≤ b.f1 by have := hb.1; omega) hb.2.1
  omega
theorem less29 {a b : S29} (ha : Fr29 a) (hb : Fr29 b) : agonicref01_Less.f a.f0 a.f1 b.f0 b.f1 = some (decide (a.f0 * b.f1 < b.f0 * a.f1)) := by
  have h1 := prod29 ha hb
  have h2 := prod29 hb ha
  exact less_f (by omega) (by omega) (by omega) (by omega)
theorem rd29_at {a b : List S29} {x : S29} : rd_T29 (a ++ x :: b) (a.length : Int) = x := by
  unfold rd_T29
  rw [List.getD_eq_getElem?_getD, Int.toNat_natCast, List.getElem?_append_right (Nat.le_refl _), Nat.sub_self]
  rfl
/-- The insertion: the element behind the sorted part goes to its place; what follows goes on with a sorted list. -/
theorem ins_l {x0 : List S54} {x1 x8 x11 b0 b1 b2 b3 : Int} {z : S29} : ∀ (n : Nat) (a b : List S29) (k : Nat), a.length = n → n + b.length < 1000000 → n + 1 ≤ k →
    (∀ r ∈ a, Fr29 r) → Fr29 z → (∀ r ∈ b, Fr29 r) → a.Pairwise leF → b.Pairwise leF → (∀ p ∈ a, ∀ q ∈ b, leF p q) → (∀ q ∈ b, leF z q) →
    ∃ (ys : List S29) (k' : Nat), k ≤ k' + n + 1 ∧ k' < k ∧ agonicref05_Courses.l2 k x0 x1 (a ++ z :: b) x8 x11 (n : Int) b0 b1 b2 b3 = agonicref05_Courses.l1 k' x0 x1 ys x8 (wrap64 (x11 + 1)) b0 b1 b2 b3 ∧ ys.Perm (a ++ z :: b) ∧ ys.Pairwise leF
  | 0, a, b, k, ha, hl, hk, fa, fz, fb, sa, sb, hab, hzb => by
    obtain ⟨k, rfl⟩ : ∃ k', k = k' + 1 := ⟨k - 1, by omega⟩
    obtain rfl : a = [] := List.eq_nil_of_length_eq_zero ha
    refine ⟨[] ++ z :: b, k, by omega, by omega, ?_, List.Perm.refl _, ?_⟩
    · simp only [agonicref05_Courses.l2]
      rw [if_neg (by decide)]
    · rw [List.nil_append, List.pairwise_cons]
      exact ⟨hzb, sb⟩
  | n + 1, a, b, k, ha, hl, hk, fa, fz, fb, sa, sb, hab, hzb => by
    obtain ⟨k, rfl⟩ : ∃ k', k = k' + 1 := ⟨k - 1, by omega⟩
    obtain ⟨a', y, rfl⟩ : ∃ a' y, a = a' ++ [y] := by
      rcases List.eq_nil_or_concat a with rfl | ⟨a', y, e⟩
      · simp at ha
      · exact ⟨a', y, by rw [e, List.concat_eq_append]⟩
    have ha' : a'.length = n := by simpa using ha
    have fy : Fr29 y := fa y (by simp)
    have r1 : rd_T29 ((a' ++ [y]) ++ z :: b) ((n + 1 : Nat) : Int) = z := by
      have := rd29_at (a := a' ++ [y]) (b := b) (x := z)
      rwa [List.length_append, List.length_singleton, ha'] at this
    have r2 : rd_T29 ((a' ++ [y]) ++ z :: b) (n : Int) = y := by
      rw [List.append_assoc, ← ha']
      exact rd29_at
    have hlen : ((a' ++ [y]) ++ z :: b).length = n + 2 + b.length := by simp; omega
    have ew : wrap64 (((n + 1 : Nat) : Int) - 1) = (n : Int) := by rw [w64 (by omega) (by omega)]; omega
    have hstep : agonicref05_Courses.l2 (k + 1) x0 x1 ((a' ++ [y]) ++ z :: b) x8 x11 ((n + 1 : Nat) : Int) b0 b1 b2 b3 =
        if z.f0 * y.f1 < y.f0 * z.f1 then agonicref05_Courses.l2 k x0 x1 (a' ++ z :: (y :: b)) x8 x11 (n : Int) b0 b1 b2 b3 else agonicref05_Courses.l1 k x0 x1 ((a' ++ [y]) ++ z :: b) x8 (wrap64 (x11 + 1)) b0 b1 b2 b3 := by
      conv => lhs; simp only [agonicref05_Courses.l2]
      rw [if_pos (by omega), if_pos (by omega), if_pos (by omega), ew, if_pos (by omega), if_pos (by omega), r1, r2, less29 fz fy, Option.bind_some]
      have hset : (((a' ++ [y]) ++ z :: b).set (((n + 1 : Nat) : Int).toNat) (⟨y.f0, y.f1⟩ : S29)).set ((n : Int).toNat) (⟨z.f0, z.f1⟩ : S29) = a' ++ z :: (y :: b) := by
        rw [Int.toNat_natCast, Int.toNat_natCast, List.append_assoc, List.set_append_right _ _ (by omega), List.set_append_right _ _ (by omega), ha']
        have e1 : n + 1 - n = 1 := by omega
        rw [e1, Nat.sub_self]
        rfl
      rw [hset]
      by_cases hc : z.f0 * y.f1 < y.f0 * z.f1
      · rw [if_pos hc, if_pos (decide_eq_true hc)]
      · rw [if_neg hc, if_neg (by rw [decide_eq_false hc]; decide)]
    rw [hstep]
    rw [List.pairwise_append] at sa
    by_cases hc : z.f0 * y.f1 < y.f0 * z.f1
    · rw [if_pos hc]
      have hzy : leF z y := Int.le_of_lt hc
      obtain ⟨ys, k', k1, k2, e, hp, hs⟩ := ins_l (x0 := x0) (x1 := x1) (x8 := x8) (x11 := x11) (b0 := b0) (b1 := b1) (b2 := b2) (b3 := b3) n a' (y :: b) k ha' (by simp; omega) (by omega) (fun r hr => fa r (by simp [hr])) fz (fun r hr => by
        rcases List.mem_cons.1 hr with rfl | hr
        · exact fy
        · exact fb r hr) sa.1 (by rw [List.pairwise_cons]; exact ⟨fun q hq => hab y (by simp) q hq, sb⟩) (fun p hp q hq => by
        rcases List.mem_cons.1 hq with rfl | hq
        · exact sa.2.2 p hp q (by simp)
        · exact hab p (by simp [hp]) q hq) (fun q hq => by
        rcases List.mem_cons.1 hq with rfl | hq
        · exact hzy
        · exact hzb q hq)
      refine ⟨ys, k', by omega, by omega, e, hp.trans ?_, hs⟩
      rw [List.append_assoc]
      exact List.Perm.append_left a' (List.Perm.swap y z b)
    · rw [if_neg hc]
      have hyz : leF y z := by unfold leF; omega
      refine ⟨(a' ++ [y]) ++ z :: b, k, by omega, by omega, rfl, List.Perm.refl _, ?_⟩
      rw [List.pairwise_append, List.pairwise_cons]
      refine ⟨by rw [List.pairwise_append]; exact sa, ⟨hzb, sb⟩, fun p hp q hq => ?_⟩
      have hpz : leF p z := by
        rcases List.mem_append.1 hp with h1 | h1
        · exact leF_trans (fa p hp) fy fz (sa.2.2 p h1 y (by simp)) hyz
        · obtain rfl : p = y := by simpa using h1
          exact hyz
      rcases List.mem_cons.1 hq with rfl | hq
      · exact hpz
      · exact hab p hp q hq
theorem c29_fr {l : List S55} (h : Valid l) {i : Nat} (hi : i < l.length) {m : Int} (hm : inSeg l i m = true) : Fr29 (c29 (crs l i m)) := by
  obtain ⟨_, _, a, b, c, d, e⟩ := courseAt_crs h hi (Nat.le_refl 132) hm
  exact ⟨a, b, c, d, e⟩
/-- One segment of the reference, from turn j on (n of them are left): even and met, or all its hits are inserted. -/
def TurnRes (l : List S55) (mag : Int) (i n j : Nat) (acc : List S29) (k : Nat) (v : Option (List S29 × Int)) : Prop :=
  (cr l i = cr l (i + 1) ∧ (∃ t : Nat, j ≤ t ∧ t < 5 ∧ cr l i = mag - 7200 + 3600 * (t : Int)) ∧ v = some ([], 16)) ∨
  (¬ (cr l i = cr l (i + 1) ∧ ∃ t : Nat, j ≤ t ∧ t < 5 ∧ cr l i = mag - 7200 + 3600 * (t : Int)) ∧ ∃ (ys : List S29) (k' : Nat), k ≤ k' + 1 + n * (5 * i + 20) ∧ k' < k ∧
    v = agonicref05_Courses.l0 k' (l.map cv) mag ys (((i + 1 : Nat) : Int)) ∧ ys.Perm (acc ++ ((runM (inSeg l i) (mag - 7200 + 3600 * (j : Int)) n).map (fun m => c29 (crs l i m)))) ∧ ys.Pairwise leF)
theorem rturn_l {l : List S55} (h : Valid l) {i : Nat} (hi : i < l.length) {mag : Int} (h0 : 0 ≤ mag) (h1 : mag < 3600) :
    ∀ (n j : Nat) (acc : List S29) (k : Nat), j + n = 5 → acc.length ≤ 5 * i + j → 300 + n * (5 * i + 20) ≤ k → (∀ r ∈ acc, Fr29 r) → acc.Pairwise leF →
    TurnRes l mag i n j acc k (agonicref05_Courses.l1 k (l.map cv) mag acc (i : Int) ((j : Int) - 2) (hd l i) (dv l i) (hd l (i + 1)) (dv l (i + 1)))
  | 0, j, acc, k, hj, ha, hk, fa, sa => by
    obtain ⟨k, rfl⟩ : ∃ k', k = k' + 1 := ⟨k - 1, by omega⟩
    have hle := h.le
    refine .inr ⟨fun ⟨_, t, h1, h2, _⟩ => by omega, acc, k, by omega, by omega, ?_, by simp [runM], sa⟩
    conv => lhs; simp only [agonicref05_Courses.l1]
    rw [if_neg (by omega), w64 (by omega) (by omega)]
    rfl
  | n + 1, j, acc, k, hj, ha, hk, fa, sa => by
    obtain ⟨k, rfl⟩ : ∃ k', k = k' + 1 := ⟨k - 1, by omega⟩
    have hle := h.le
    obtain ⟨b1, b2, b3, b4, b5, b6⟩ := h.len hi
    have c1 := h.dr i
    have c2 := h.dr (i + 1)
    have c3 := h.cr_bd (show i ≤ l.length by omega)
    have c4 := h.cr_bd (show i + 1 ≤ l.length by omega)
    have hmul : (n + 1) * (5 * i + 20) = n * (5 * i + 20) + (5 * i + 20) := by rw [Nat.add_mul, Nat.one_mul]
    have ek : wrap64 (((j : Int) - 2) + 1) = ((j + 1 : Nat) : Int) - 2 := by rw [w64 (by omega) (by omega)]; omega
    have em : mag + ((j : Int) - 2) * 3600 = mag - 7200 + 3600 * (j : Int) := by omega
    have eu : wrap64 (wrap64 (wrap64 (mag + wrap64 (((j : Int) - 2) * 3600)) - hd l i) - dv l i) = mag - 7200 + 3600 * (j : Int) - cr l i := by
      rw [w64 (x := ((j : Int) - 2) * 3600) (by omega) (by omega), w64 (x := mag + ((j : Int) - 2) * 3600) (by omega) (by omega), w64 (x := mag + ((j : Int) - 2) * 3600 - hd l i) (by omega) (by omega), w64 (by omega) (by omega)]
      unfold cr; omega
    have hrun : runM (inSeg l i) (mag - 7200 + 3600 * (j : Int)) (n + 1) = (if inSeg l i (mag - 7200 + 3600 * (j : Int)) then [mag - 7200 + 3600 * (j : Int)] else []) ++ runM (inSeg l i) (mag - 7200 + 3600 * ((j + 1 : Nat) : Int)) n := by
      have e := run_add (P := inSeg l i) (s := mag - 7200 + 3600 * (j : Int)) 1 n
      rw [Nat.add_comm 1 n] at e
      rw [e]
      have e1 : mag - 7200 + 3600 * (j : Int) + 3600 * ((1 : Nat) : Int) = mag - 7200 + 3600 * ((j + 1 : Nat) : Int) := by omega
      rw [e1, run_succ]
      have e2 : mag - 7200 + 3600 * (j : Int) + 3600 * ((0 : Nat) : Int) = mag - 7200 + 3600 * (j : Int) := by omega
      rw [e2]
      rfl
    have hM0 : ∃ M, mag - 7200 + 3600 * (j : Int) = M := ⟨_, rfl⟩
    obtain ⟨M, hM⟩ := hM0
    rw [hM] at em eu hrun
    -- what the next turn gives, if nothing is met here
    have next : ∀ k2, k ≤ k2 + 1 → k2 ≤ k → (cr l i = cr l (i + 1) → cr l i ≠ M) → inSeg l i M = false →
        agonicref05_Courses.l1 (k + 1) (l.map cv) mag acc (i : Int) ((j : Int) - 2) (hd l i) (dv l i) (hd l (i + 1)) (dv l (i + 1)) = agonicref05_Courses.l1 k2 (l.map cv) mag acc (i : Int) (((j + 1 : Nat) : Int) - 2) (hd l i) (dv l i) (hd l (i + 1)) (dv l (i + 1)) → TurnRes l mag i (n + 1) j acc (k + 1) (agonicref05_Courses.l1 (k + 1) (l.map cv) mag acc (i : Int) ((j : Int) - 2) (hd l i) (dv l i) (hd l (i + 1)) (dv l (i + 1))) := by
      intro k2 hk2 hk2' hflat hin e
      rcases rturn_l h hi h0 h1 n (j + 1) acc k2 (by omega) (by omega) (by omega) fa sa with ⟨q1, ⟨t, q2, q3, q4⟩, q5⟩ | ⟨q1, ys, k', q2, q3, q4, q5, q6⟩
      · exact Or.inl ⟨q1, ⟨t, by omega, q3, q4⟩, e.trans q5⟩
      · refine Or.inr ⟨fun ⟨r1, t, r2, r3, r4⟩ => q1 ⟨r1, t, ?_, r3, r4⟩, ys, k', by omega, by omega, e.trans q4, ?_, q6⟩
        · rcases Nat.lt_or_ge j t with hlt | hge
          · omega
          · obtain rfl : t = j := by omega
            exact absurd (r4.trans hM) (hflat r1)
        · rw [hM, hrun, hin]
          simpa using q5
    by_cases hr : cr l (i + 1) - cr l i = 0
    · by_cases hu : M - cr l i = 0
      · refine .inl ⟨by omega, ⟨j, Nat.le_refl _, by omega, by omega⟩, ?_⟩
        conv => lhs; simp only [agonicref05_Courses.l1]
        rw [if_pos (by omega), rise_f h hi, Option.bind_some, if_pos hr, eu, if_pos hu]
      · refine next k (by omega) (by omega) (fun _ => by omega) ?_ ?_
        · rcases hb : inSeg l i M with _ | _
          · rfl
          · rw [inSeg_iff] at hb; omega
        · conv => lhs; simp only [agonicref05_Courses.l1]
          rw [if_pos (by omega), rise_f h hi, Option.bind_some, if_pos hr, eu, if_neg hu, ek]
    · have hL : wrap64 (hd l (i + 1) - hd l i) = hd l (i + 1) - hd l i := w64 (by omega) (by omega)
      have hb := abs_mul_le (a := M - cr l i) (A := 20000) (b := hd l (i + 1) - hd l i) (B := 3600) (by omega) (by omega) (by omega)
      have ew2 : wrap64 ((M - cr l i) * (hd l (i + 1) - hd l i)) = (M - cr l i) * (hd l (i + 1) - hd l i) := w64 (by omega) (by omega)
      obtain ⟨t1, t2, ht, hrr, _⟩ := plain_f (k := k) (by omega) (n := (M - cr l i) * (hd l (i + 1) - hd l i)) (d := cr l (i + 1) - cr l i) (by omega) (by omega) (by omega) (by omega) hr
      have ht2 := hrr.1
      have ht2d : t2 ≤ 9000 := by
        have v := isR_dvd hrr (Int.dvd_refl _)
        rw [← Int.natAbs_dvd_natAbs] at v
        have := Nat.le_of_dvd (by omega) v
        omega
      -- the test of the reference: t from 0 to below the length
      have htest : (0 ≤ t1 ∧ t1 < (hd l (i + 1) - hd l i) * t2) ↔ inSeg l i M = true := by
        constructor
        · rintro ⟨k1, k2⟩
          rw [inSeg_iff]
          obtain ⟨_, _, f⟩ := hrr
          generalize hd l (i + 1) - hd l i = L at *
          generalize hRR : cr l (i + 1) - cr l i = R at *
          generalize huu : M - cr l i = u at *
          rcases Int.lt_or_lt_of_ne hr with hneg | hpos
          · -- falling
            have f1 : 0 ≤ t1 * (-R) := Int.mul_nonneg k1 (by omega)
            have f2 : t1 * (-R) < L * t2 * (-R) := Int.mul_lt_mul_of_pos_right k2 (by omega)
            have f3 : t1 * (-R) = (-u) * L * t2 := by rw [Int.mul_neg, f]; grind
            have f4 : 0 ≤ -u := by
              by_cases hh : 0 ≤ -u
              · exact hh
              · have : (-u) * (L * t2) < 0 := Int.mul_neg_of_neg_of_pos (by omega) (Int.mul_pos (by omega) (by omega))
                have e : (-u) * L * t2 = (-u) * (L * t2) := by grind
                omega
            have f5 : -u < -R := by
              have e : (-u) * (L * t2) < (-R) * (L * t2) := by
                have e1 : (-u) * L * t2 = (-u) * (L * t2) := by grind
                have e2 : L * t2 * (-R) = (-R) * (L * t2) := by grind
                omega
              exact Int.lt_of_mul_lt_mul_right e (Int.le_of_lt (Int.mul_pos (by omega) (by omega)))
            omega
          · have f1 : 0 ≤ t1 * R := Int.mul_nonneg k1 (by omega)
            have f2 : t1 * R < L * t2 * R := Int.mul_lt_mul_of_pos_right k2 (by omega)
            have f4 : 0 ≤ u := by
              by_cases hh : 0 ≤ u
              · exact hh
              · have : u * (L * t2) < 0 := Int.mul_neg_of_neg_of_pos (by omega) (Int.mul_pos (by omega) (by omega))
                have e : u * L * t2 = u * (L * t2) := by grind
                omega
            have f5 : u < R := by
              have e : u * (L * t2) < R * (L * t2) := by
                have e1 : u * L * t2 = u * (L * t2) := by grind
                have e2 : L * t2 * R = R * (L * t2) := by grind
                omega
              exact Int.lt_of_mul_lt_mul_right e (Int.le_of_lt (Int.mul_pos (by omega) (by omega)))
            omega
        · intro hin
          obtain ⟨_, _, _, _, _, _, _, hx⟩ := hit_parts h hi hin
          obtain ⟨k1, k2, _⟩ := hx t1 t2 hrr
          exact ⟨k1, k2⟩
      have hLt := prod_le (show 0 ≤ hd l (i + 1) - hd l i by omega) b2 (show 0 ≤ t2 by omega) ht2d
      have ht1b : -100000000 ≤ t1 ∧ t1 ≤ 100000000 := by
        have v : t1.natAbs ≤ ((M - cr l i) * (hd l (i + 1) - hd l i)).natAbs := by
          obtain ⟨p, q, e1, e2, e3, _⟩ := plain_f (k := 130) (by omega) (n := (M - cr l i) * (hd l (i + 1) - hd l i)) (d := cr l (i + 1) - cr l i) (by omega) (by omega) (by omega) (by omega) hr
          obtain ⟨rfl, _⟩ := isR_unique hr hrr e2
          exact e3
        omega
      have hless : agonicref01_Less.f t1 t2 (hd l (i + 1) - hd l i) 1 = some (decide (t1 < (hd l (i + 1) - hd l i) * t2)) := by
        rw [less_f (by omega) (by omega) (by omega) (by omega), Int.mul_one]
      obtain ⟨k, rfl⟩ : ∃ k', k = k' + 1 := ⟨k - 1, by omega⟩
      by_cases hin : inSeg l i M = true
      · obtain ⟨g1, g2⟩ := htest.2 hin
        obtain ⟨hD0, d1, d2, u1, u2, n1, n2, hx⟩ := hit_parts h hi hin
        obtain ⟨_, _, _, hf, hp⟩ := hx t1 t2 hrr
        obtain ⟨p0, q, hs, hr2, _⟩ := ref_plus (k := k) (by omega) hf
        have hr2' : IsR p0 q (t1 * 1 + hd l i * t2) t2 := by
          have e1 : hd l i * t2 + t1 * 1 = t1 * 1 + hd l i * t2 := by omega
          rw [e1, Int.one_mul] at hr2
          exact hr2
        obtain ⟨z1, z2, z3, z4, z5, _⟩ := hp p0 q hr2'
        have hq := hr2.1
        have hc : CrsIs l i M (p0 % (3600 * q)) q := ⟨p0, z1, rfl⟩
        have hcrs := crs_eq h hi hin hc
        have fz := c29_fr h hi hin
        rw [hcrs] at fz
        have har : agonicref05_around.f k p0 q = some (p0 % (3600 * q), q) := by
          unfold agonicref05_around.f
          exact (raround_up 2 k p0 q hq (by omega) (by omega) (by omega) (by omega) (by omega) (by omega)).1
        obtain ⟨ys, k', q1, q2, q3, q4, q5⟩ := ins_l (x0 := l.map cv) (x1 := mag) (x8 := (i : Int)) (x11 := (j : Int) - 2) (b0 := hd l i) (b1 := dv l i) (b2 := hd l (i + 1)) (b3 := dv l (i + 1)) (z := ⟨p0 % (3600 * q), q⟩) acc.length acc [] k rfl (by simp; omega) (by omega) fa fz (by simp) sa (by simp) (by simp) (by simp)
        have hys : ∀ r ∈ ys, Fr29 r := fun r hr => by
          have := q4.mem_iff.1 hr
          rcases List.mem_append.1 this with h' | h'
          · exact fa r h'
          · obtain rfl : r = ⟨p0 % (3600 * q), q⟩ := by simpa using h'
            exact fz
        have hyl : ys.length = acc.length + 1 := by rw [q4.length_eq]; simp
        have estep : agonicref05_Courses.l1 (k + 1 + 1) (l.map cv) mag acc (i : Int) ((j : Int) - 2) (hd l i) (dv l i) (hd l (i + 1)) (dv l (i + 1)) = agonicref05_Courses.l1 k' (l.map cv) mag ys (i : Int) (((j + 1 : Nat) : Int) - 2) (hd l i) (dv l i) (hd l (i + 1)) (dv l (i + 1)) := by
          conv => lhs; simp only [agonicref05_Courses.l1]
          rw [if_pos (by omega), rise_f h hi, Option.bind_some, if_neg hr, eu, hL, ew2, ref_red, ht, Option.bind_some]
          dsimp only
          rw [if_neg (by omega), whole_f, Option.bind_some]
          dsimp only
          rw [hless, Option.bind_some, decide_eq_true g2]
          simp only [agonicref05_Courses.j4]
          rw [if_neg (by decide), whole_f, Option.bind_some]
          dsimp only
          rw [hs, Option.bind_some]
          dsimp only
          rw [har, Option.bind_some, if_pos (by omega), Option.bind_some]
          have el : wrap64 (((acc ++ [(⟨p0 % (3600 * q), q⟩ : S29)]).length : Int) - 1) = (acc.length : Int) := by
            rw [List.length_append, List.length_singleton, w64 (by omega) (by omega)]; omega
          rw [el, q3, ek]
        rcases rturn_l h hi h0 h1 n (j + 1) ys k' (by omega) (by omega) (by omega) hys q5 with ⟨w1, ⟨t, w2, w3, w4⟩, w5⟩ | ⟨w1, zs, k'', w2, w3, w4, w5, w6⟩
        · exact Or.inl ⟨w1, ⟨t, by omega, w3, w4⟩, estep.trans w5⟩
        · refine Or.inr ⟨fun ⟨r1, _⟩ => hr (by omega), zs, k'', by omega, by omega, estep.trans w4, ?_, w6⟩
          rw [hM, hrun, hin, if_pos rfl, List.map_append, ← List.append_assoc]
          refine w5.trans (List.Perm.append_right _ (q4.trans ?_))
          have : List.map (fun m => c29 (crs l i m)) [M] = [(⟨p0 % (3600 * q), q⟩ : S29)] := by
            simp only [List.map_cons, List.map_nil, hcrs]; rfl
          rw [this]
      · have hin' : inSeg l i M = false := by simpa using hin
        refine next k (by omega) (by omega) (fun hh => absurd hh (by omega)) hin' ?_
        conv => lhs; simp only [agonicref05_Courses.l1]
        rw [if_pos (by omega), rise_f h hi, Option.bind_some, if_neg hr, eu, hL, ew2, ref_red, ht, Option.bind_some]
        dsimp only
        have j4t : agonicref05_Courses.j4 (k + 1) (l.map cv) mag acc (i : Int) ((j : Int) - 2) true (hd l i) (dv l i) (hd l (i + 1)) (dv l (i + 1)) t1 t2 = agonicref05_Courses.l1 k (l.map cv) mag acc (i : Int) (((j + 1 : Nat) : Int) - 2) (hd l i) (dv l i) (hd l (i + 1)) (dv l (i + 1)) := by
          simp only [agonicref05_Courses.j4]
          rw [if_pos trivial, ek]
        by_cases hneg : t1 < 0
        · rw [if_pos hneg, j4t]
        · rw [if_neg hneg, whole_f, Option.bind_some]
          dsimp only
          rw [hless, Option.bind_some, decide_eq_false (fun hh => hin (htest.1 ⟨by omega, hh⟩))]
          exact j4t
end Go.Proofs.Ytccjefoejjnccaa.M
