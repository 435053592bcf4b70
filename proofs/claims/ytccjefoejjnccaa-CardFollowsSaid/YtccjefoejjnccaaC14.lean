-- Written by a program of this session (wip/tools/myprint.py, over the kit's print).
import Derived.Test.YtccjefoejjnccaaC0
import Derived.Test.YtccjefoejjnccaaC7
import Derived.Test.YtccjefoejjnccaaC11
import Derived.Test.YtccjefoejjnccaaZ
namespace Go.Proofs.Ytccjefoejjnccaa.C
open Go.RowKit Go.Proofs.YtccjefoejjnccaaW.PrintWords Go.Proofs.YtccjefoejjnccaaW.PrintLast Go.Proofs.YtccjefoejjnccaaW.PrintMore
attribute [local go_sem] max2_int min2_int max_two min_two max_three min_three max_four min_four   -- for this text's walks alone
set_option linter.unusedVariables false
set_option linter.unusedSimpArgs false
mutual
def agonicref05_Inverse.j0 : Nat → List (S54) → Int → Bool → Option ((List (S54)) × Int)
 | 0, _, _, _ => none
 | k + 1, x0, x5, x21 => if x21 = true then (agonicref05_Inverse.j1 k x0 21) else (agonicref05_Inverse.j1 k x0 x5)
def agonicref05_Inverse.j1 : Nat → List (S54) → Int → Option ((List (S54)) × Int)
 | 0, _, _ => none
 | k + 1, x0, x5 => if x5 = 0 then (agonicref05_Inverse.l0 k x0 ([] : List (S54)) 0) else (some (([] : List (S54)), x5))
def agonicref05_Inverse.l0 : Nat → List (S54) → List (S54) → Int → Option ((List (S54)) × Int)
 | 0, _, _, _ => none
 | k + 1, x0, x6, x7 => if x7 < (x0.length : Int) then (if 0 ≤ x7 then ((agonicref05_whole.f (wrap64 (((rd_T54 x0 x7).f0) + ((rd_T54 x0 x7).f1)))).bind fun bt304 => ((agonicref05_around.f k bt304.1 bt304.2).bind fun bt306 => (if x6.length < 8796093022208 then ((some (x6 ++ [(⟨bt306.1, wrap64 (-((rd_T54 x0 x7).f1))⟩ : S54)] : List (S54))).bind fun y310 => (agonicref05_Inverse.l1 k x0 y310 x7 (wrap64 ((y310.length : Int) - 1)))) else (none)))) else (none)) else (some (x6, 0))
def agonicref05_Inverse.l1 : Nat → List (S54) → List (S54) → Int → Int → Option ((List (S54)) × Int)
 | 0, _, _, _, _ => none
 | k + 1, x0, x6, x7, x9 => if x9 > 0 then (if 0 ≤ x9 then (if x9 < (x6.length : Int) then (if 0 ≤ (wrap64 (x9 - 1)) then (if (wrap64 (x9 - 1)) < (x6.length : Int) then (if ((rd_T54 x6 x9).f0) < ((rd_T54 x6 (wrap64 (x9 - 1))).f0) then (agonicref05_Inverse.l1 k x0 ((x6.set (x9 : Int).toNat (⟨(rd_T54 x6 (wrap64 (x9 - 1))).f0, (rd_T54 x6 (wrap64 (x9 - 1))).f1⟩ : S54)).set ((wrap64 (x9 - 1)) : Int).toNat (⟨(rd_T54 x6 x9).f0, (rd_T54 x6 x9).f1⟩ : S54)) x7 (wrap64 (x9 - 1))) else (agonicref05_Inverse.l0 k x0 x6 (wrap64 (x7 + 1)))) else (none)) else (none)) else (none)) else (none)) else (agonicref05_Inverse.l0 k x0 x6 (wrap64 (x7 + 1)))
end
def agonicref05_Inverse.f (k : Nat) (l0 : List (S54)) : Option ((List (S54)) × Int) := (agonicref05_Folds.f k l0).bind fun bt298 => (if bt298.2 = 0 then (agonicref05_Inverse.j0 k l0 bt298.2 (decide ((bt298.1.length : Int) > 0))) else (agonicref05_Inverse.j0 k l0 bt298.2 false))
def agonicref05_Inverse.T10 : Bool × List (List Nat × List Nat) := (true, [([], []), ([], []), ([0, 1], [0, 1]), ([2], [2]), ([3], [3]), ([], []), ([], []), ([5, 6], [5, 6]), ([7], [7]), ([8], [8]), ([4, 9], [4, 9]), ([10], [10]), ([11, 11], [11]), ([], []), ([13, 12, 12, 0, 1, 2, 3, 4, 5, 6, 7, 8, 9, 10, 11, 12, 13], [12, 13])])
def agonicref05_Inverse.B10 : List Nat := [0, 0, 3, 7, 15, 0, 0, 96, 224, 480, 1023, 2047, 4095, 0, 16383]
theorem agonicref05_Inverse.tab10 : rtab .any (opsOf Try.f29 10) = agonicref05_Inverse.T10 := by kernel_rfl
theorem agonicref05_Inverse.bits10 : waitsOk agonicref05_Inverse.T10.2 agonicref05_Inverse.B10 = true := by kernel_rfl
def agonicref05_Inverse.T11 : Bool × List (List Nat × List Nat) := (true, [([], []), ([], []), ([1], [1]), ([], []), ([], []), ([3, 4], [3, 4]), ([5], [5]), ([6], [6]), ([7], [7]), ([2, 8], [2, 8]), ([9], [9]), ([0, 10], [0, 10]), ([11, 11, 0, 1, 2, 3, 4, 5, 6, 7, 8, 9, 10, 11], [0, 11])])
def agonicref05_Inverse.B11 : List Nat := [0, 0, 2, 0, 0, 24, 56, 120, 248, 510, 1022, 2047, 4095]
theorem agonicref05_Inverse.tab11 : rtab .any (opsOf Try.f29 11) = agonicref05_Inverse.T11 := by kernel_rfl
theorem agonicref05_Inverse.bits11 : waitsOk agonicref05_Inverse.T11.2 agonicref05_Inverse.B11 = true := by kernel_rfl
def agonicref05_Inverse.T13 : Bool × List (List Nat × List Nat) := (true, [([], []), ([0], [0]), ([1], [1]), ([2], [2]), ([2], [2]), ([3, 4, 2], [2, 3, 4]), ([5, 2], [2, 5]), ([6, 2], [2, 6]), ([2], [2]), ([2], [2]), ([9, 2], [2, 9]), ([8, 10, 2], [2, 8, 10]), ([11, 2], [2, 11]), ([12, 2], [2, 12]), ([7, 13, 2], [2, 7, 13]), ([2, 14], [2, 14])])
def agonicref05_Inverse.B13 : List Nat := [0, 1, 3, 7, 7, 31, 63, 127, 7, 7, 519, 1799, 3847, 7943, 16383, 32767]
theorem agonicref05_Inverse.tab13 : rtab .any (opsOf Try.f29 13) = agonicref05_Inverse.T13 := by kernel_rfl
theorem agonicref05_Inverse.bits13 : waitsOk agonicref05_Inverse.T13.2 agonicref05_Inverse.B13 = true := by kernel_rfl
def agonicref05_Inverse.T15 : Bool × List (List Nat × List Nat) := (true, [([], []), ([], []), ([], []), ([], []), ([3], [3]), ([], []), ([], []), ([6], [6]), ([5, 7], [5, 7]), ([8], [8]), ([], []), ([], []), ([10, 11], [10, 11]), ([12], [12]), ([0, 1, 0, 1, 5, 6, 7, 8, 9, 13], [0, 1]), ([14, 9, 0, 1, 5, 6, 7, 8, 9, 13], [9, 14]), ([2, 4, 0, 1, 2, 3, 4, 5, 6, 7, 8, 9, 10, 11, 12, 13, 14, 15], [2, 4]), ([16, 13, 15, 0, 1, 2, 3, 4, 5, 6, 7, 8, 9, 10, 11, 12, 13, 14, 15], [13, 16])])
def agonicref05_Inverse.B15 : List Nat := [0, 0, 0, 0, 8, 0, 0, 64, 224, 480, 0, 0, 3072, 7168, 16355, 32739, 65535, 131071]
theorem agonicref05_Inverse.tab15 : rtab .any (opsOf Try.f29 15) = agonicref05_Inverse.T15 := by kernel_rfl
theorem agonicref05_Inverse.bits15 : waitsOk agonicref05_Inverse.T15.2 agonicref05_Inverse.B15 = true := by kernel_rfl
set_option maxHeartbeats 8000000 in
set_option maxRecDepth 100000 in
theorem agonicref05_Inverse.calls (k : Nat) (A0 : Option Addr) (c0 : Nat) (l0 : List (S54)) (r1 : List (S54)) (r2 : Int) (w : World) (hr0 : Kd.C k54 w A0 l0.length l0) (hc0 : l0.length ≤ c0) (h : agonicref05_Inverse.f k l0 = some (r1, r2)) :
  Calls Try.prog 29 #[.slice A0 l0.length c0] w fun e w' => ∃ v0_ : Value, e = .returned (.tuple #[v0_, .int .i64 r2]) ∧ Kd.R k54 54 w' w.heap.size (fun _ => True) v0_ r1 ∧ Below w.heap.size w w' := by
 have hu29 := Try.underlying29
 have hu54 := Try.underlying54
 have HR0 := Aside0.mk hr0
 have HC0 := Aside0.mk hc0
 clear hr0 hc0
 have HB := Aside0.mk (Below.refl w.heap.size w)
 have H : ((agonicref05_Folds.f k l0).bind fun bt298 => (if bt298.2 = 0 then (agonicref05_Inverse.j0 k l0 bt298.2 (decide ((bt298.1.length : Int) > 0))) else (agonicref05_Inverse.j0 k l0 bt298.2 false))) = some (r1, r2) := h
 clear h
 replace H := zi H
 obtain ⟨⟨t298, t299⟩, A20, H⟩ := H
 try dsimp only at H
 have A2 := Aside0.mk A20
 clear A20
 have HC3 := Aside0.mk H
 clear H
 go_enter Try.func29, Try.ntmps29
 go_upto_region 2 with (first | ((with_reducible refine gC 19 rfl ?_); refine gL 12 Try.func19 #[.slice A0 l0.length c0] ?_; (with_reducible refine (agonicref05_Folds.calls k _ _ l0 t298 t299 _ ?side1 ?side2 A2.out).mono ?_); (case side1 => exact zc HR0.out); (case side2 => exact HC0.out); rintro e w4 ⟨v300, rfl, ho0, hb⟩; refine ⟨_, rfl, ?_⟩; have HO301 := Aside0.mk (Kd.R_lower ho0 (below_size zh)); replace HB := zd hb; (try clear hb); (try clear ho0)))
 (try simp only [Act.put, List.setIfInBounds_toArray, List.set_cons_zero, List.set_cons_succ])
 go_cut [21] (fun v21 wc => ∃ (kq : Nat) (x21_2 : Bool), v21 = .bool x21_2 ∧ Aside0 (agonicref05_Inverse.j0 kq l0 t299 x21_2 = some (r1, r2)) ∧ Aside0 (kq ≤ k) ∧ Aside0 (Below w.heap.size w wc))
 case first =>
  have H := HC3.out
  clear HC3
  by_cases c5 : t299 = 0
  ·rw [if_pos c5] at H
   have c5b0 : (t299 == 0) = true := beq_iff_eq.mpr c5
   have c5b1 : (t299 != 0) = false := bne_eq_false_iff_eq.mpr c5
   clear c5
   (first | rw [c5b0] | (simp only [i64_w, i32_w]; rw [c5b0]) | skip)
   have H' := Aside0.mk H
   clear H
   obtain ⟨Ao6, co6, eo6⟩ := Kd.R_slice HO301.out
   subst eo6
   go_wp2
   go_meet
   case rel => exact ⟨_, (decide ((t298.length : Int) > 0)), (by first | rfl | (simp; done) | (simp [*]; done)), H', ⟨by first | omega | exact Nat.le_refl _⟩, ⟨zh⟩⟩
  ·rw [if_neg c5] at H
   have c5b0 : (t299 == 0) = false := beq_eq_false_iff_ne.mpr c5
   have c5b1 : (t299 != 0) = true := bne_iff_ne.mpr c5
   (first | rw [c5b0] | (simp only [i64_w, i32_w]; rw [c5b0]) | skip)
   have H' := Aside0.mk H
   clear H
   go_wp2
   go_meet
   case rel => exact ⟨_, (false), (by first | rfl | (simp; done) | (simp [*]; done)), H', ⟨by first | omega | exact Nat.le_refl _⟩, ⟨zh⟩⟩
 case rest =>
  clear HC3
  try clear c1
  try clear c2
  try clear p2
  try clear c5
  try clear c5b0
  try clear c5b1
  obtain ⟨kq, x21_2, rfl, HA, HJ2, HB⟩ := hcut
  cases kq with
  | zero => exact absurd HA.out (by simp [agonicref05_Inverse.j0])
  | succ kj2 =>
   have H := HA.out
   clear HA
   simp only [agonicref05_Inverse.j0] at H
   have HC7 := Aside0.mk H
   clear H
   go_upto_if 21 with (fail)
   go_cut [5] (fun v5 wc => ∃ (kq : Nat) (x5_6 : Int), v5 = .int .i64 x5_6 ∧ Aside0 (agonicref05_Inverse.j1 kq l0 x5_6 = some (r1, r2)) ∧ Aside0 (kq ≤ kj2) ∧ Aside0 (Below w.heap.size w wc))
   case first =>
    have H := HC7.out
    clear HC7
    by_cases c8 : x21_2 = true
    ·subst c8
     rw [if_pos rfl] at H
     have H' := Aside0.mk H
     clear H
     go_wp2
     go_meet
     case rel => exact ⟨_, (21), (by first | rfl | (simp; done) | (simp [*]; done)), H', ⟨by have := HJ2.out; first | omega | exact Nat.le_refl _⟩, ⟨zh⟩⟩
    ·replace c8 := Bool.eq_false_iff.mpr c8
     subst c8
     rw [if_neg (show ¬ (false = true) by decide)] at H
     have H' := Aside0.mk H
     clear H
     go_wp2
     go_meet
     case rel => exact ⟨_, (t299), (by first | rfl | (simp; done) | (simp [*]; done)), H', ⟨by have := HJ2.out; first | omega | exact Nat.le_refl _⟩, ⟨zh⟩⟩
   case rest =>
    clear HC7
    try clear c1
    try clear c2
    try clear p2
    try clear c5
    try clear c5b0
    try clear c5b1
    try clear c8
    try clear p2
    obtain ⟨kq, x5_6, rfl, HA, HJ6, HB⟩ := hcut
    cases kq with
    | zero => exact absurd HA.out (by simp [agonicref05_Inverse.j1])
    | succ kj6 =>
     have H := HA.out
     clear HA
     simp only [agonicref05_Inverse.j1] at H
     by_cases c9 : x5_6 = 0
     ·rw [if_pos c9] at H
      have c9b0 : (x5_6 == 0) = true := beq_iff_eq.mpr c9
      have c9b1 : (x5_6 != 0) = false := bne_eq_false_iff_eq.mpr c9
      clear c9
      have H' := Aside0.mk H
      clear H
      go_wp2
      go_loopg [6, 7] kj6 (fun kq v6 v7 w' => ∃ (x6_3 : List (S54)) (x7_3 : Int), v7 = .int .i64 x7_3 ∧ Aside0 (agonicref05_Inverse.l0 kq l0 x6_3 x7_3 = some (r1, r2)) ∧ Aside0 (kq ≤ kj6) ∧ Aside0 (Kd.R k54 54 w' w.heap.size (fun _ => True) v6 x6_3) ∧ Aside0 (Below w.heap.size w w'))
      case atStart => exact ⟨(([] : List (S54))), (0), (by first | rfl | (simp; done) | (simp [*]; done)), H', ⟨Nat.le_refl _⟩, ⟨by first | exact Kd.R_nil _ _ _ _ _ | exact Kd.N_nil _ _ _ _ _ | exact Kd.V_nil _ _ _ _ _ | exact Kd.Q_nil _ _ _ _ _ | exact Kd.S_nil _ _ _ _ _⟩, ⟨zh⟩⟩
      case round =>
       clear H'
       try clear c1
       try clear c2
       try clear p2
       try clear c5
       try clear c5b0
       try clear c5b1
       try clear c8
       try clear c9
       try clear c9b0
       try clear c9b1
       try clear p2
       obtain ⟨x6_3, x7_3, rfl, HA, HK3, HO_6, HB⟩ := hrel
       cases gk with
       | zero => exact absurd HA.out (by simp [agonicref05_Inverse.l0])
       | succ k3 =>
        have H := HA.out
        clear HA
        simp only [agonicref05_Inverse.l0] at H
        by_cases c10 : x7_3 < (l0.length : Int)
        ·rw [if_pos c10] at H
         have c10b0 : decide (x7_3 < (l0.length : Int)) = true := decide_eq_true c10
         clear c10
         by_cases c11 : 0 ≤ x7_3
         ·rw [if_pos c11] at H
          have c11b0 : decide (0 ≤ x7_3) = true := decide_eq_true c11
          clear c11
          replace H := zi H
          obtain ⟨⟨t304, t305⟩, A120, H⟩ := H
          try dsimp only at H
          have A12 := Aside0.mk A120
          clear A120
          replace H := zi H
          obtain ⟨⟨t306, t307⟩, A130, H⟩ := H
          try dsimp only at H
          have A13 := Aside0.mk A130
          clear A130
          by_cases c14 : x6_3.length < 8796093022208
          ·rw [if_pos c14] at H
           have LMc14 := Aside0.mk c14
           clear c14
           obtain ⟨y310, hy310⟩ : ∃ y_ : List (S54), y_ = (x6_3 ++ [(⟨t306, wrap64 (-((rd_T54 l0 x7_3).f1))⟩ : S54)]) := ⟨_, rfl⟩
           replace H : (agonicref05_Inverse.l1 k3 l0 y310 x7_3 (wrap64 ((y310.length : Int) - 1))) = some (r1, r2) := by first | (rw [hy310]; with_reducible exact H) | (have H2_ := (Option.bind_some _ _).symm.trans H; rw [hy310]; with_reducible exact H2_) | (have H2_ := (Option.bind_some _ _).symm.trans H; with_reducible exact H2_) | with_reducible exact H | (rw [hy310]; exact H) | exact H
           have Ny310 := Aside0.mk hy310
           clear hy310
           have H' := Aside0.mk H
           clear H
           try go_wp2
           replace HO_6 := Aside0.mk (Kd.R_drew HO_6.out)
           replace HB := Aside0.mk (below_drew1 HB.out)
           have p302 : 0 ≤ (x7_3 : Int) := zp
           have q302 : x7_3 < (l0.length : Int) := zp
           obtain ⟨ad302, e302, hx302_0, hx302_1⟩ := at_T54 HR0.out x7_3 p302 q302
           have hw302_1 := hx302_1
           have hw302_0 := hx302_0
           cases e302
           replace hx302_0 := (HB.out.cell (World.block_lt_of_cell? w _ hx302_0)).trans hx302_0
           replace hx302_1 := (HB.out.cell (World.block_lt_of_cell? w _ hx302_1)).trans hx302_1
           replace p302 := eq_true p302
           replace q302 := eq_true q302
           have p303 : 0 ≤ (x7_3 : Int) := zp
           have q303 : x7_3 < (l0.length : Int) := zp
           obtain ⟨ad303, e303, hx303_0, hx303_1⟩ := at_T54 HR0.out x7_3 p303 q303
           have hw303_1 := hx303_1
           have hw303_0 := hx303_0
           obtain rfl : ad302 = ad303 := (by injection e303)
           replace hx303_0 := (HB.out.cell (World.block_lt_of_cell? w _ hx303_0)).trans hx303_0
           replace hx303_1 := (HB.out.cell (World.block_lt_of_cell? w _ hx303_1)).trans hx303_1
           replace p303 := eq_true p303
           replace q303 := eq_true q303
           refine start_ (n := 15) (S := fun w' => w'.cell? (ad302.add ((x7_3).toNat * 2)) = some (.int .i64 ((rd_T54 l0 x7_3).f0)) ∧ w'.cell? ⟨(ad302.add ((x7_3).toNat * 2)).block, (ad302.add ((x7_3).toNat * 2)).off + 1, none⟩ = some (.int .i64 ((rd_T54 l0 x7_3).f1)) ∧ w'.cell? (ad302.add ((x7_3).toNat * 2)) = some (.int .i64 ((rd_T54 l0 x7_3).f0)) ∧ w'.cell? ⟨(ad302.add ((x7_3).toNat * 2)).block, (ad302.add ((x7_3).toNat * 2)).off + 1, none⟩ = some (.int .i64 ((rd_T54 l0 x7_3).f1))) (ds := []) #[false, false, false, false, false, false, false, false, false, false, false, false, false, false, false] (by kernel_rfl) rfl rfl ⟨((HB.out.cell (World.block_lt_of_cell? w _ hw302_0)).trans hw302_0), ((HB.out.cell (World.block_lt_of_cell? w _ hw302_1)).trans hw302_1), ((HB.out.cell (World.block_lt_of_cell? w _ hw303_0)).trans hw303_0), ((HB.out.cell (World.block_lt_of_cell? w _ hw303_1)).trans hw303_1)⟩ (fun hHeld => ?_); refine with_tabW agonicref05_Inverse.tab10 agonicref05_Inverse.bits10 (fun HT_ HW_ => ?_)
           generalize wr.drew = w15 at HO_6 HB hx302_0 hx302_1 hx303_0 hx303_1 hHeld ⊢
           refine pq HT_ 0 31 15 1 ?_
           refine pq HT_ 1 32 15 3 ?_
           refine pq HT_ 2 33 15 7 ?_
           refine pq HT_ 3 34 15 15 ?_
           refine pq HT_ 5 36 15 47 ?_
           refine pq HT_ 6 37 15 111 ?_
           refine pq HT_ 7 38 15 239 ?_
           refine pq HT_ 8 39 15 495 ?_
           refine take_ (i := 4) (N := some 35) (v := ?_) (a' := ?_) #[true, true, true, true, true, true, true, true, true, false, false, false, false, false, false] rfl rfl (take_ofW HT_.out HW_.out (by kernel_rfl)) (fun _ _ _ h => h) (Or.inl ⟨by rfl, ?_⟩) hHeld ?_ ?_
           rotate_left
           ·rintro w' ⟨s0, s1, s2, s3⟩
            go_simp
            with_reducible rfl
           rotate_left
           ·simp only [Act.put, List.setIfInBounds_toArray, List.set_cons_zero, List.set_cons_succ, i64_w, i32_w]
            rfl
           refine take_ (i := 9) (N := some 40) (v := ?_) (a' := ?_) #[true, true, true, true, true, true, true, true, true, true, false, false, false, false, false] rfl rfl (take_ofW HT_.out HW_.out (by kernel_rfl)) (fun _ _ _ h => h) (Or.inl ⟨by rfl, ?_⟩) hHeld ?_ ?_
           rotate_left
           ·rintro w' ⟨s0, s1, s2, s3⟩
            go_simp
            with_reducible rfl
           rotate_left
           ·simp only [Act.put, List.setIfInBounds_toArray, List.set_cons_zero, List.set_cons_succ, i64_w, i32_w]
            rfl
           refine pq HT_ 10 41 15 2047 ?_
           refine join_ (σ := Nat) 1 #[true, true, true, true, true, true, true, true, true, true, true, true, true, true, false] (fun s_ => [(42, .agg #[.int .i64 t304, .int .i64 t305]), (43, .agg #[.int .i64 t306, .int .i64 t307]), (8, .pointer (some ⟨s_, 0, none⟩))]) (fun s_ w' => (w'.cell? (ad302.add ((x7_3).toNat * 2)) = some (.int .i64 ((rd_T54 l0 x7_3).f0)) ∧ w'.cell? ⟨(ad302.add ((x7_3).toNat * 2)).block, (ad302.add ((x7_3).toNat * 2)).off + 1, none⟩ = some (.int .i64 ((rd_T54 l0 x7_3).f1)) ∧ w'.cell? (ad302.add ((x7_3).toNat * 2)) = some (.int .i64 ((rd_T54 l0 x7_3).f0)) ∧ w'.cell? ⟨(ad302.add ((x7_3).toNat * 2)).block, (ad302.add ((x7_3).toNat * 2)).off + 1, none⟩ = some (.int .i64 ((rd_T54 l0 x7_3).f1))) ∧ (Kd.R k54 54 w' w.heap.size (fun _ => True) u6 x6_3) ∧ (w'.heap[s_]? = some (.cells #[.int .i64 0, .int .i64 0] 29 (0, 0))) ∧ (w.heap.size ≤ s_) ∧ (w.heap.size ≤ s_) ∧ (Below w.heap.size w w')) ?_ ?_
           rotate_left
           ·intro hCont
            refine two_ (i := 11) (j := 13) (Ni := some 42) (Nj := some 8) #[true, true, true, true, true, true, true, true, true, true, true, true, false, false, false] #[true, true, true, true, true, true, true, true, true, true, true, false, false, true, false] rfl rfl rfl rfl (two_of HT_.out (by kernel_rfl)) (by decide) (by decide) (fun K hK => ?_) (fun K hK => ?_)
            ·skip
             refine goes_ Try.func58 (by kernel_rfl) rfl #[.int .i64 (wrap64 (((rd_T54 l0 x7_3).f0) + ((rd_T54 l0 x7_3).f1)))] (by rfl) rfl rfl zs ?_
             with_reducible refine (agonicref05_whole.calls (wrap64 (((rd_T54 l0 x7_3).f0) + ((rd_T54 l0 x7_3).f1))) t304 t305 _ A12.out).mono ?_
             rintro e w16 ⟨rfl, hb⟩
             refine ⟨_, rfl, ?_⟩
             replace HO_6 := zr HO_6 hb
             replace HB := zd hb
             (try clear hb)
             (try clear hb2)
             (try clear hk)
             (try clear hi)
             refine hK.out _ _ ⟨((HB.out.cell (World.block_lt_of_cell? w _ hw302_0)).trans hw302_0), ((HB.out.cell (World.block_lt_of_cell? w _ hw302_1)).trans hw302_1), ((HB.out.cell (World.block_lt_of_cell? w _ hw303_0)).trans hw303_0), ((HB.out.cell (World.block_lt_of_cell? w _ hw303_1)).trans hw303_1)⟩ (fun hHeld => ?_)
             clear hK K
             refine norm_ (a' := ?_) ?_ ?_
             rotate_left
             ·show Act.put _ (some 42) _ = _
              simp only [Act.put, List.setIfInBounds_toArray, List.set_cons_zero, List.set_cons_succ, i64_w, i32_w]
              rfl
             refine two_ (i := 12) (j := 13) (Ni := some 43) (Nj := some 8) #[true, true, true, true, true, true, true, true, true, true, true, true, true, false, false] #[true, true, true, true, true, true, true, true, true, true, true, true, false, true, false] rfl rfl rfl rfl (two_of HT_.out (by kernel_rfl)) (by decide) (by decide) (fun K hK => ?_) (fun K hK => ?_)
             ·skip
              refine goes_ Try.func68 (by kernel_rfl) rfl #[.agg #[.int .i64 t304, .int .i64 t305]] (by rfl) rfl rfl zs ?_
              with_reducible refine (agonicref05_around.calls k3 t304 t305 t306 t307 _ A13.out).mono ?_
              rintro e w17 ⟨rfl, hb⟩
              refine ⟨_, rfl, ?_⟩
              replace HO_6 := zr HO_6 hb
              replace HB := zd hb
              (try clear hb)
              (try clear hb2)
              (try clear hk)
              (try clear hi)
              refine hK.out _ _ ⟨((HB.out.cell (World.block_lt_of_cell? w _ hw302_0)).trans hw302_0), ((HB.out.cell (World.block_lt_of_cell? w _ hw302_1)).trans hw302_1), ((HB.out.cell (World.block_lt_of_cell? w _ hw303_0)).trans hw303_0), ((HB.out.cell (World.block_lt_of_cell? w _ hw303_1)).trans hw303_1)⟩ (fun hHeld => ?_)
              clear hK K
              refine norm_ (a' := ?_) ?_ ?_
              rotate_left
              ·show Act.put _ (some 43) _ = _
               simp only [Act.put, List.setIfInBounds_toArray, List.set_cons_zero, List.set_cons_succ, i64_w, i32_w]
               rfl
              refine one_ (i := 13) (N := some 8) #[true, true, true, true, true, true, true, true, true, true, true, true, true, true, false] rfl rfl (one_of HT_.out (by kernel_rfl)) (by decide) (fun K hK => ?_)
              refine box_step ?hg (N := 8) ?hd (cs := #[.int .i64 0, .int .i64 0]) (t := 29) ?hr ?_; (case hd => rfl); (case hg => rfl); (case hr => first | (go_simp; done) | (go_simp; rfl))
              intro gb308 hg w18 hbox hb
              replace HO_6 := zr HO_6 hb
              have BK308 := Aside0.mk (hbox)
              have GW308 := zG w hg
              have GE308 := zG w hg
              replace HB := zd hb
              clear hb hbox hg
              refine hK.out _ _ ⟨((HB.out.cell (World.block_lt_of_cell? w _ hw302_0)).trans hw302_0), ((HB.out.cell (World.block_lt_of_cell? w _ hw302_1)).trans hw302_1), ((HB.out.cell (World.block_lt_of_cell? w _ hw303_0)).trans hw303_0), ((HB.out.cell (World.block_lt_of_cell? w _ hw303_1)).trans hw303_1)⟩ (fun hHeld => ?_)
              clear hK K
              refine norm_ (a' := ?_) ?_ ?_
              rotate_left
              ·show Act.put _ (some 8) _ = _
               simp only [Act.put, List.setIfInBounds_toArray, List.set_cons_zero, List.set_cons_succ, i64_w, i32_w]
               rfl
              exact norm_ (by simp only [putAll, Act.put, List.setIfInBounds_toArray, List.set_cons_zero, List.set_cons_succ]) (hCont (gb308) _ ⟨hHeld, (zo HO_6.out), (zb BK308), GW308.out, GE308.out, zh⟩)
             ·skip
              refine box_step ?hg (N := 8) ?hd (cs := #[.int .i64 0, .int .i64 0]) (t := 29) ?hr ?_; (case hd => rfl); (case hg => rfl); (case hr => first | (go_simp; done) | (go_simp; rfl))
              intro gb308 hg w17 hbox hb
              replace HO_6 := zr HO_6 hb
              have BK308 := Aside0.mk (hbox)
              have GW308 := zG w hg
              have GE308 := zG w hg
              replace HB := zd hb
              clear hb hbox hg
              refine hK.out _ _ ⟨((HB.out.cell (World.block_lt_of_cell? w _ hw302_0)).trans hw302_0), ((HB.out.cell (World.block_lt_of_cell? w _ hw302_1)).trans hw302_1), ((HB.out.cell (World.block_lt_of_cell? w _ hw303_0)).trans hw303_0), ((HB.out.cell (World.block_lt_of_cell? w _ hw303_1)).trans hw303_1)⟩ (fun hHeld => ?_)
              clear hK K
              refine norm_ (a' := ?_) ?_ ?_
              rotate_left
              ·show Act.put _ (some 8) _ = _
               simp only [Act.put, List.setIfInBounds_toArray, List.set_cons_zero, List.set_cons_succ, i64_w, i32_w]
               rfl
              refine one_ (i := 12) (N := some 43) #[true, true, true, true, true, true, true, true, true, true, true, true, true, true, false] rfl rfl (one_of HT_.out (by kernel_rfl)) (by decide) (fun K hK => ?_)
              refine goes_ Try.func68 (by kernel_rfl) rfl #[.agg #[.int .i64 t304, .int .i64 t305]] (by rfl) rfl rfl zs ?_
              with_reducible refine (agonicref05_around.calls k3 t304 t305 t306 t307 _ A13.out).mono ?_
              rintro e w18 ⟨rfl, hb⟩
              refine ⟨_, rfl, ?_⟩
              replace HO_6 := zr HO_6 hb
              replace BK308 := zk BK308 hb
              replace HB := zd hb
              (try clear hb)
              (try clear hb2)
              (try clear hk)
              (try clear hi)
              refine hK.out _ _ ⟨((HB.out.cell (World.block_lt_of_cell? w _ hw302_0)).trans hw302_0), ((HB.out.cell (World.block_lt_of_cell? w _ hw302_1)).trans hw302_1), ((HB.out.cell (World.block_lt_of_cell? w _ hw303_0)).trans hw303_0), ((HB.out.cell (World.block_lt_of_cell? w _ hw303_1)).trans hw303_1)⟩ (fun hHeld => ?_)
              clear hK K
              refine norm_ (a' := ?_) ?_ ?_
              rotate_left
              ·show Act.put _ (some 43) _ = _
               simp only [Act.put, List.setIfInBounds_toArray, List.set_cons_zero, List.set_cons_succ, i64_w, i32_w]
               rfl
              exact norm_ (by simp only [putAll, Act.put, List.setIfInBounds_toArray, List.set_cons_zero, List.set_cons_succ]) (hCont (gb308) _ ⟨hHeld, (zo HO_6.out), (zb BK308), GW308.out, GE308.out, zh⟩)
            ·skip
             refine box_step ?hg (N := 8) ?hd (cs := #[.int .i64 0, .int .i64 0]) (t := 29) ?hr ?_; (case hd => rfl); (case hg => rfl); (case hr => first | (go_simp; done) | (go_simp; rfl))
             intro gb308 hg w16 hbox hb
             replace HO_6 := zr HO_6 hb
             have BK308 := Aside0.mk (hbox)
             have GW308 := zG w hg
             have GE308 := zG w hg
             replace HB := zd hb
             clear hb hbox hg
             refine hK.out _ _ ⟨((HB.out.cell (World.block_lt_of_cell? w _ hw302_0)).trans hw302_0), ((HB.out.cell (World.block_lt_of_cell? w _ hw302_1)).trans hw302_1), ((HB.out.cell (World.block_lt_of_cell? w _ hw303_0)).trans hw303_0), ((HB.out.cell (World.block_lt_of_cell? w _ hw303_1)).trans hw303_1)⟩ (fun hHeld => ?_)
             clear hK K
             refine norm_ (a' := ?_) ?_ ?_
             rotate_left
             ·show Act.put _ (some 8) _ = _
              simp only [Act.put, List.setIfInBounds_toArray, List.set_cons_zero, List.set_cons_succ, i64_w, i32_w]
              rfl
             refine one_ (i := 11) (N := some 42) #[true, true, true, true, true, true, true, true, true, true, true, true, false, true, false] rfl rfl (one_of HT_.out (by kernel_rfl)) (by decide) (fun K hK => ?_)
             refine goes_ Try.func58 (by kernel_rfl) rfl #[.int .i64 (wrap64 (((rd_T54 l0 x7_3).f0) + ((rd_T54 l0 x7_3).f1)))] (by rfl) rfl rfl zs ?_
             with_reducible refine (agonicref05_whole.calls (wrap64 (((rd_T54 l0 x7_3).f0) + ((rd_T54 l0 x7_3).f1))) t304 t305 _ A12.out).mono ?_
             rintro e w17 ⟨rfl, hb⟩
             refine ⟨_, rfl, ?_⟩
             replace HO_6 := zr HO_6 hb
             replace BK308 := zk BK308 hb
             replace HB := zd hb
             (try clear hb)
             (try clear hb2)
             (try clear hk)
             (try clear hi)
             refine hK.out _ _ ⟨((HB.out.cell (World.block_lt_of_cell? w _ hw302_0)).trans hw302_0), ((HB.out.cell (World.block_lt_of_cell? w _ hw302_1)).trans hw302_1), ((HB.out.cell (World.block_lt_of_cell? w _ hw303_0)).trans hw303_0), ((HB.out.cell (World.block_lt_of_cell? w _ hw303_1)).trans hw303_1)⟩ (fun hHeld => ?_)
             clear hK K
             refine norm_ (a' := ?_) ?_ ?_
             rotate_left
             ·show Act.put _ (some 42) _ = _
              simp only [Act.put, List.setIfInBounds_toArray, List.set_cons_zero, List.set_cons_succ, i64_w, i32_w]
              rfl
             refine one_ (i := 12) (N := some 43) #[true, true, true, true, true, true, true, true, true, true, true, true, true, true, false] rfl rfl (one_of HT_.out (by kernel_rfl)) (by decide) (fun K hK => ?_)
             refine goes_ Try.func68 (by kernel_rfl) rfl #[.agg #[.int .i64 t304, .int .i64 t305]] (by rfl) rfl rfl zs ?_
             with_reducible refine (agonicref05_around.calls k3 t304 t305 t306 t307 _ A13.out).mono ?_
             rintro e w18 ⟨rfl, hb⟩
             refine ⟨_, rfl, ?_⟩
             replace HO_6 := zr HO_6 hb
             replace BK308 := zk BK308 hb
             replace HB := zd hb
             (try clear hb)
             (try clear hb2)
             (try clear hk)
             (try clear hi)
             refine hK.out _ _ ⟨((HB.out.cell (World.block_lt_of_cell? w _ hw302_0)).trans hw302_0), ((HB.out.cell (World.block_lt_of_cell? w _ hw302_1)).trans hw302_1), ((HB.out.cell (World.block_lt_of_cell? w _ hw303_0)).trans hw303_0), ((HB.out.cell (World.block_lt_of_cell? w _ hw303_1)).trans hw303_1)⟩ (fun hHeld => ?_)
             clear hK K
             refine norm_ (a' := ?_) ?_ ?_
             rotate_left
             ·show Act.put _ (some 43) _ = _
              simp only [Act.put, List.setIfInBounds_toArray, List.set_cons_zero, List.set_cons_succ, i64_w, i32_w]
              rfl
             exact norm_ (by simp only [putAll, Act.put, List.setIfInBounds_toArray, List.set_cons_zero, List.set_cons_succ]) (hCont (gb308) _ ⟨hHeld, (zo HO_6.out), (zb BK308), GW308.out, GE308.out, zh⟩)
           rintro gb308 w19 ⟨hS_, h0_, h1_, h2_, h3_, h4_⟩
           have n0_ : Aside0 (Kd.R k54 54 w19 w.heap.size (fun _ => True) u6 x6_3) := ⟨h0_⟩
           have n1_ : Aside0 (w19.heap[gb308]? = some (.cells #[.int .i64 0, .int .i64 0] 29 (0, 0))) := ⟨h1_⟩
           have n2_ : Aside0 (w.heap.size ≤ gb308) := ⟨h2_⟩
           have n3_ : Aside0 (w.heap.size ≤ gb308) := ⟨h3_⟩
           have n4_ : Aside0 (Below w.heap.size w w19) := ⟨h4_⟩
           clear HO_6
           clear HB
           clear h0_ h1_ h2_ h3_ h4_
           have HO_6 := n0_
           have BK308 := n1_
           have GW308 := n2_
           have GE308 := n3_
           have HB := n4_
           clear n0_ n1_ n2_ n3_ n4_
           have hHeld : w19.cell? (ad302.add ((x7_3).toNat * 2)) = some (.int .i64 ((rd_T54 l0 x7_3).f0)) ∧ w19.cell? ⟨(ad302.add ((x7_3).toNat * 2)).block, (ad302.add ((x7_3).toNat * 2)).off + 1, none⟩ = some (.int .i64 ((rd_T54 l0 x7_3).f1)) ∧ w19.cell? (ad302.add ((x7_3).toNat * 2)) = some (.int .i64 ((rd_T54 l0 x7_3).f0)) ∧ w19.cell? ⟨(ad302.add ((x7_3).toNat * 2)).block, (ad302.add ((x7_3).toNat * 2)).off + 1, none⟩ = some (.int .i64 ((rd_T54 l0 x7_3).f1)) := hS_
           refine norm_ (a' := ?_) ?_ ?_
           rotate_left
           ·simp only [putAll, Act.put, List.setIfInBounds_toArray, List.set_cons_zero, List.set_cons_succ]
            rfl
           refine one_ (i := 14) (N := none) #[true, true, true, true, true, true, true, true, true, true, true, true, true, true, true] rfl rfl (one_of HT_.out (by kernel_rfl)) (by decide) (fun K hK => ?_)
           have hs20 : w19.cell? ⟨gb308, 0, none⟩ = some (.int .i64 0) := zy BK308 0
           have hfs20 := blk_frozen BK308.out 0
           have hs21 : w19.cell? ⟨gb308, 1, none⟩ = some (.int .i64 0) := zy BK308 1
           have hfs21 := blk_frozen BK308.out 1
           refine skip_ (w1 := ?_) (by rfl) rfl ?_ ?_
           rotate_left
           ·go_simp
            rfl
           refine hK.out _ _ ⟨((cell_far (p := ⟨gb308, _, none⟩) (by first | exact Nat.ne_of_lt (Nat.lt_of_lt_of_le (zv hw302_0) GW308.out) | (rw [add_block]; exact Nat.ne_of_lt (Nat.lt_of_lt_of_le (zv hw302_0) GW308.out)) | (show (Addr.add _ _).block ≠ _; rw [add_block]; exact Nat.ne_of_lt (Nat.lt_of_lt_of_le (zv hw302_0) GW308.out)) | (dsimp only; exact Nat.ne_of_lt (Nat.lt_of_lt_of_le (zv hw302_0) GW308.out))) _).trans (((cell_far (p := ⟨gb308, _, none⟩) (by first | exact Nat.ne_of_lt (Nat.lt_of_lt_of_le (zv hw302_0) GW308.out) | (rw [add_block]; exact Nat.ne_of_lt (Nat.lt_of_lt_of_le (zv hw302_0) GW308.out)) | (show (Addr.add _ _).block ≠ _; rw [add_block]; exact Nat.ne_of_lt (Nat.lt_of_lt_of_le (zv hw302_0) GW308.out)) | (dsimp only; exact Nat.ne_of_lt (Nat.lt_of_lt_of_le (zv hw302_0) GW308.out))) _).trans (hHeld.1)))), ((cell_far (p := ⟨gb308, _, none⟩) (by first | exact Nat.ne_of_lt (Nat.lt_of_lt_of_le (zv hw302_1) GW308.out) | (rw [add_block]; exact Nat.ne_of_lt (Nat.lt_of_lt_of_le (zv hw302_1) GW308.out)) | (show (Addr.add _ _).block ≠ _; rw [add_block]; exact Nat.ne_of_lt (Nat.lt_of_lt_of_le (zv hw302_1) GW308.out)) | (dsimp only; exact Nat.ne_of_lt (Nat.lt_of_lt_of_le (zv hw302_1) GW308.out))) _).trans (((cell_far (p := ⟨gb308, _, none⟩) (by first | exact Nat.ne_of_lt (Nat.lt_of_lt_of_le (zv hw302_1) GW308.out) | (rw [add_block]; exact Nat.ne_of_lt (Nat.lt_of_lt_of_le (zv hw302_1) GW308.out)) | (show (Addr.add _ _).block ≠ _; rw [add_block]; exact Nat.ne_of_lt (Nat.lt_of_lt_of_le (zv hw302_1) GW308.out)) | (dsimp only; exact Nat.ne_of_lt (Nat.lt_of_lt_of_le (zv hw302_1) GW308.out))) _).trans (hHeld.2.1)))), ((cell_far (p := ⟨gb308, _, none⟩) (by first | exact Nat.ne_of_lt (Nat.lt_of_lt_of_le (zv hw303_0) GW308.out) | (rw [add_block]; exact Nat.ne_of_lt (Nat.lt_of_lt_of_le (zv hw303_0) GW308.out)) | (show (Addr.add _ _).block ≠ _; rw [add_block]; exact Nat.ne_of_lt (Nat.lt_of_lt_of_le (zv hw303_0) GW308.out)) | (dsimp only; exact Nat.ne_of_lt (Nat.lt_of_lt_of_le (zv hw303_0) GW308.out))) _).trans (((cell_far (p := ⟨gb308, _, none⟩) (by first | exact Nat.ne_of_lt (Nat.lt_of_lt_of_le (zv hw303_0) GW308.out) | (rw [add_block]; exact Nat.ne_of_lt (Nat.lt_of_lt_of_le (zv hw303_0) GW308.out)) | (show (Addr.add _ _).block ≠ _; rw [add_block]; exact Nat.ne_of_lt (Nat.lt_of_lt_of_le (zv hw303_0) GW308.out)) | (dsimp only; exact Nat.ne_of_lt (Nat.lt_of_lt_of_le (zv hw303_0) GW308.out))) _).trans (hHeld.2.2.1)))), ((cell_far (p := ⟨gb308, _, none⟩) (by first | exact Nat.ne_of_lt (Nat.lt_of_lt_of_le (zv hw303_1) GW308.out) | (rw [add_block]; exact Nat.ne_of_lt (Nat.lt_of_lt_of_le (zv hw303_1) GW308.out)) | (show (Addr.add _ _).block ≠ _; rw [add_block]; exact Nat.ne_of_lt (Nat.lt_of_lt_of_le (zv hw303_1) GW308.out)) | (dsimp only; exact Nat.ne_of_lt (Nat.lt_of_lt_of_le (zv hw303_1) GW308.out))) _).trans (((cell_far (p := ⟨gb308, _, none⟩) (by first | exact Nat.ne_of_lt (Nat.lt_of_lt_of_le (zv hw303_1) GW308.out) | (rw [add_block]; exact Nat.ne_of_lt (Nat.lt_of_lt_of_le (zv hw303_1) GW308.out)) | (show (Addr.add _ _).block ≠ _; rw [add_block]; exact Nat.ne_of_lt (Nat.lt_of_lt_of_le (zv hw303_1) GW308.out)) | (dsimp only; exact Nat.ne_of_lt (Nat.lt_of_lt_of_le (zv hw303_1) GW308.out))) _).trans (hHeld.2.2.2))))⟩ (fun hHeld => ?_)
           clear hK K
           refine done_ (done_of HT_.out (by kernel_rfl)) ?_
           try go_wp2
           have n0_ : Aside0 (Kd.R k54 54 ((w19.setCell ⟨gb308, 0, none⟩ (.int .i64 t306)).setCell ⟨gb308, 1, none⟩ (.int .i64 t307)) w.heap.size (fun _ => True) u6 x6_3) := ⟨by refine zl ?_; exact Kd.R_mono (Kd.R_far (p := ⟨gb308, 1, none⟩) (Kd.R_far (p := ⟨gb308, 0, none⟩) (Kd.R_types HO_6.out BK308.out (by decide)) (fun _ hk => hk.2) (.int .i64 t306)) (fun _ hk => hk.2) (.int .i64 t307)) (fun _ hk => trivial)⟩
           have n1_ : Aside0 (((w19.setCell ⟨gb308, 0, none⟩ (.int .i64 t306)).setCell ⟨gb308, 1, none⟩ (.int .i64 t307)).heap[gb308]? = some (.cells #[.int .i64 t306, .int .i64 t307] 29 (0, 0))) := ⟨by refine zm ?_; refine blk_put (cs := #[.int .i64 t306, .int .i64 0]) ?_ 1 _ rfl; refine zm ?_; refine blk_put (cs := #[.int .i64 0, .int .i64 0]) ?_ 0 _ rfl; refine zm ?_; exact BK308.out⟩
           have n2_ : Aside0 (Below w.heap.size w ((w19.setCell ⟨gb308, 0, none⟩ (.int .i64 t306)).setCell ⟨gb308, 1, none⟩ (.int .i64 t307))) := ⟨zh⟩
           (try clear HO_6)
           (try clear BK308)
           (try clear HB)
           generalize ((w19.setCell ⟨gb308, 0, none⟩ (.int .i64 t306)).setCell ⟨gb308, 1, none⟩ (.int .i64 t307)) = w22 at n0_ n1_ n2_ ⊢
           have HO_6 := n0_
           have BK308 := n1_
           have HB := n2_
           clear n0_ n1_ n2_
           replace HO_6 := Aside0.mk (Kd.R_drew HO_6.out)
           replace BK308 := Aside0.mk (blk_drew BK308.out)
           replace HB := Aside0.mk (below_drew1 HB.out)
           have p309 : 0 ≤ (x7_3 : Int) := zp
           have q309 : x7_3 < (l0.length : Int) := zp
           obtain ⟨ad309, e309, hx309_0, hx309_1⟩ := at_T54 HR0.out x7_3 p309 q309
           have hw309_1 := hx309_1
           have hw309_0 := hx309_0
           obtain rfl : ad302 = ad309 := (by injection e309)
           replace hx309_0 := (HB.out.cell (World.block_lt_of_cell? w _ hx309_0)).trans hx309_0
           replace hx309_1 := (HB.out.cell (World.block_lt_of_cell? w _ hx309_1)).trans hx309_1
           replace p309 := eq_true p309
           replace q309 := eq_true q309
           refine start_ (n := 13) (S := fun w' => w'.cell? ⟨gb308, 0, none⟩ = some (.int .i64 t306) ∧ w'.cell? ⟨gb308, 1, none⟩ = some (.int .i64 t307) ∧ w'.cell? (ad302.add ((x7_3).toNat * 2)) = some (.int .i64 ((rd_T54 l0 x7_3).f0)) ∧ w'.cell? ⟨(ad302.add ((x7_3).toNat * 2)).block, (ad302.add ((x7_3).toNat * 2)).off + 1, none⟩ = some (.int .i64 ((rd_T54 l0 x7_3).f1))) (ds := []) #[false, false, false, false, false, false, false, false, false, false, false, false, false] (by kernel_rfl) rfl rfl ⟨zy BK308 0, zy BK308 1, ((HB.out.cell (World.block_lt_of_cell? w _ hw309_0)).trans hw309_0), ((HB.out.cell (World.block_lt_of_cell? w _ hw309_1)).trans hw309_1)⟩ (fun hHeld => ?_); refine with_tabW agonicref05_Inverse.tab11 agonicref05_Inverse.bits11 (fun HT_ HW_ => ?_)
           generalize w22.drew = w23 at HO_6 BK308 HB hx309_0 hx309_1 hHeld ⊢
           refine pq HT_ 0 44 13 1 ?_
           refine pq HT_ 1 45 13 3 ?_
           refine pq HT_ 3 47 13 11 ?_
           refine pq HT_ 4 48 13 27 ?_
           refine pq HT_ 5 49 13 59 ?_
           refine pq HT_ 6 50 13 123 ?_
           refine take_ (i := 2) (N := some 46) (v := ?_) (a' := ?_) #[true, true, true, true, true, true, true, false, false, false, false, false, false] rfl rfl (take_ofW HT_.out HW_.out (by kernel_rfl)) (fun _ _ _ h => h) (Or.inl ⟨by rfl, ?_⟩) hHeld ?_ ?_
           rotate_left
           ·rintro w' ⟨s0, s1, s2, s3⟩
            go_simp
            with_reducible rfl
           rotate_left
           ·simp only [Act.put, List.setIfInBounds_toArray, List.set_cons_zero, List.set_cons_succ, i64_w, i32_w]
            rfl
           refine take_ (i := 7) (N := some 51) (v := ?_) (a' := ?_) #[true, true, true, true, true, true, true, true, false, false, false, false, false] rfl rfl (take_ofW HT_.out HW_.out (by kernel_rfl)) (fun _ _ _ h => h) (Or.inl ⟨by rfl, ?_⟩) hHeld ?_ ?_
           rotate_left
           ·rintro w' ⟨s0, s1, s2, s3⟩
            go_simp
            with_reducible rfl
           rotate_left
           ·simp only [Act.put, List.setIfInBounds_toArray, List.set_cons_zero, List.set_cons_succ, i64_w, i32_w]
            rfl
           refine pq HT_ 8 52 13 511 ?_
           refine pq HT_ 9 53 13 1023 ?_
           refine one_ (i := 10) (N := some 54) #[true, true, true, true, true, true, true, true, true, true, true, false, false] rfl rfl (one_of HT_.out (by kernel_rfl)) (by decide) (fun K hK => ?_)
           refine value_ (w1 := ?_) (v := ?_) (by rfl) rfl ?_ ?_
           rotate_left 2
           ·go_simp
            constructor
            ·rfl
            ·rfl
           refine hK.out _ _ ⟨(blk_cell (blk_alloc BK308.out _) 0).trans rfl, (blk_cell (blk_alloc BK308.out _) 1).trans rfl, (World.cell?_alloc_lt _ _ _ (World.block_lt_of_cell? _ _ (((HB.out.cell (World.block_lt_of_cell? w _ hw309_0)).trans hw309_0)))).trans (((HB.out.cell (World.block_lt_of_cell? w _ hw309_0)).trans hw309_0)), (World.cell?_alloc_lt _ _ _ (World.block_lt_of_cell? _ _ (((HB.out.cell (World.block_lt_of_cell? w _ hw309_1)).trans hw309_1)))).trans (((HB.out.cell (World.block_lt_of_cell? w _ hw309_1)).trans hw309_1))⟩ (fun hHeld => ?_)
           clear hK K
           refine norm_ (a' := ?_) ?_ ?_
           rotate_left
           ·show Act.put _ (some 54) _ = _
            simp only [Act.put, List.setIfInBounds_toArray, List.set_cons_zero, List.set_cons_succ, i64_w, i32_w]
            rfl
           refine one_ (i := 11) (N := some 55) #[true, true, true, true, true, true, true, true, true, true, true, true, false] rfl rfl (one_of HT_.out (by kernel_rfl)) (by decide) (fun K hK => ?_)
           refine Kd.R_append_step k54 (w0 := w) w.heap.size (by rfl) (.tmp 44) (.tmp 54) 26 54 (.agg #[(.int .i64 0), (.int .i64 0)]) 16 rfl Try.underlying26 info54 rfl (by decide) (by omega) u6 x6_3 (⟨t306, wrap64 (-((rd_T54 l0 x7_3).f1))⟩ : S54) [.int .i64 t306, .int .i64 (wrap64 (-((rd_T54 l0 x7_3).f1)))] (fun _ => True) (fun _ => False) rfl rfl ?aP (fun _ hk => hk.elim) ?aF ?aO ?aB ?aS ?aL ?_
           (case aP => exact k54_mkM _ _ _ (⟨t306, wrap64 (-((rd_T54 l0 x7_3).f1))⟩ : S54))
           (case aB => exact zh)
           (case aF => exact (fun _ _ => trivial))
           (case aO => exact (zo HO_6.out))
           (case aS => exact (below_size zh))
           (case aL => have := LMc14.out; omega)
           intro v311 w24 ho hb hg hat
           rw [← Ny310.out] at ho
           replace BK308 := Aside0.mk (blk_grown (g := gb308) (o := .cells #[.int .i64 t306, .int .i64 t307] 29 (0, 0)) (zb BK308) hg (Kd.R_ne HO_6.out BK308.out (by decide)))
           replace HB := Aside0.mk (hb)
           have HO312 := Aside0.mk (ho)
           clear HO_6
           clear ho hb hg hat
           refine hK.out _ _ ⟨zy BK308 0, zy BK308 1, ((HB.out.cell (World.block_lt_of_cell? w _ hw309_0)).trans hw309_0), ((HB.out.cell (World.block_lt_of_cell? w _ hw309_1)).trans hw309_1)⟩ (fun hHeld => ?_)
           clear hK K
           refine norm_ (a' := ?_) ?_ ?_
           rotate_left
           ·show Act.put _ (some 55) _ = _
            simp only [Act.put, List.setIfInBounds_toArray, List.set_cons_zero, List.set_cons_succ, i64_w, i32_w]
            rfl
           refine pq HT_ 12 6 13 8191 ?_
           refine done_ (done_of HT_.out (by kernel_rfl)) ?_
           obtain ⟨Ao25, co25, eo25⟩ := Kd.R_slice HO312.out
           subst eo25
           try go_wp2
           go_loopg [9] k3 (fun kq v9 w' => ∃ (x6_4 : List (S54)) (x9_4 : Int), v9 = .int .i64 x9_4 ∧ Aside0 (agonicref05_Inverse.l1 kq l0 x6_4 x7_3 x9_4 = some (r1, r2)) ∧ Aside0 (kq ≤ k3) ∧ Aside0 (Kd.R k54 54 w' w.heap.size (fun _ => True) (.slice Ao25 y310.length co25) x6_4) ∧ Aside0 (w'.heap[gb308]? = some (.cells #[.int .i64 t306, .int .i64 t307] 29 (0, 0))) ∧ Aside0 (Below w.heap.size w w'))
           case atStart => exact ⟨(y310), (wrap64 ((y310.length : Int) - 1)), (by first | rfl | (simp; done) | (simp [*]; done)), H', ⟨Nat.le_refl _⟩, ⟨by refine zl ?_; exact HO312.out⟩, ⟨by refine zm ?_; exact BK308.out⟩, ⟨zh⟩⟩
           case round =>
            clear H'
            try clear c1
            try clear c2
            try clear p2
            try clear p3
            try clear q3
            try clear hx3
            try clear c5
            try clear c5b0
            try clear c5b1
            try clear c6
            try clear p6
            try clear c8
            try clear c9
            try clear c9b0
            try clear c9b1
            try clear c10
            try clear c10b0
            try clear c11
            try clear c11b0
            try clear c14
            try clear hx302_0
            try clear hx302_1
            try clear hx303_0
            try clear hx303_1
            try clear hx309_0
            try clear hx309_1
            try clear p2
            try clear p302
            try clear p303
            try clear p309
            try clear q302
            try clear q303
            try clear q309
            obtain ⟨x6_4, x9_4, rfl, HA, HK4, HO_6, BK308, HB⟩ := hrel
            have hl6_4 := (Kd.R_reads' HO_6.out).1
            rw [hl6_4] at HO_6
            (try simp only [hl6_4])
            (try simp only [hl6_4] at BK308)
            cases gk with
            | zero => exact absurd HA.out (by simp [agonicref05_Inverse.l1])
            | succ k4 =>
             have H := HA.out
             clear HA
             simp only [agonicref05_Inverse.l1] at H
             by_cases c26 : x9_4 > 0
             ·rw [if_pos c26] at H
              have c26b0 : decide (0 < x9_4) = true := decide_eq_true c26
              clear c26
              by_cases c27 : 0 ≤ x9_4
              ·rw [if_pos c27] at H
               have c27b0 : decide (0 ≤ x9_4) = true := decide_eq_true c27
               clear c27
               by_cases c28 : x9_4 < (x6_4.length : Int)
               ·rw [if_pos c28] at H
                have c28b0 : decide (x9_4 < (x6_4.length : Int)) = true := decide_eq_true c28
                clear c28
                obtain ⟨ji29, hji29⟩ : ∃ j_ : Int, (wrap64 (x9_4 - 1)) = j_ := ⟨_, rfl⟩
                replace H : (if 0 ≤ (ji29) then (if (ji29) < (x6_4.length : Int) then (if ((rd_T54 x6_4 x9_4).f0) < ((rd_T54 x6_4 (ji29)).f0) then (agonicref05_Inverse.l1 k4 l0 ((x6_4.set (x9_4 : Int).toNat (⟨(rd_T54 x6_4 (ji29)).f0, (rd_T54 x6_4 (ji29)).f1⟩ : S54)).set ((ji29) : Int).toNat (⟨(rd_T54 x6_4 x9_4).f0, (rd_T54 x6_4 x9_4).f1⟩ : S54)) x7_3 ji29) else (agonicref05_Inverse.l0 k4 l0 x6_4 (wrap64 (x7_3 + 1)))) else (none)) else (none)) = some (r1, r2) := by first | (rw [hji29] at H; exact H) | (simp only [hji29] at H ⊢; exact H)
                have hji29w : (IntKind.i64.wrap (x9_4 - 1)) = ji29 := (i64_w _).trans hji29
                by_cases c30 : 0 ≤ (ji29)
                ·rw [if_pos c30] at H
                 have c30b0 : decide (0 ≤ (ji29)) = true := decide_eq_true c30
                 clear c30
                 by_cases c31 : (ji29) < (x6_4.length : Int)
                 ·rw [if_pos c31] at H
                  have c31b0 : decide ((ji29) < (x6_4.length : Int)) = true := decide_eq_true c31
                  clear c31
                  by_cases c32 : ((rd_T54 x6_4 x9_4).f0) < ((rd_T54 x6_4 (ji29)).f0)
                  ·rw [if_pos c32] at H
                   have c32b0 : decide (((rd_T54 x6_4 x9_4).f0) < ((rd_T54 x6_4 (ji29)).f0)) = true := decide_eq_true c32
                   clear c32
                   obtain ⟨y317, hy317⟩ : ∃ y_ : List (S54), y_ = (x6_4.set (x9_4 : Int).toNat (⟨(rd_T54 x6_4 (ji29)).f0, (rd_T54 x6_4 (ji29)).f1⟩ : S54)) := ⟨_, rfl⟩
                   replace H : (agonicref05_Inverse.l1 k4 l0 (y317.set ((ji29) : Int).toNat (⟨(rd_T54 x6_4 x9_4).f0, (rd_T54 x6_4 x9_4).f1⟩ : S54)) x7_3 ji29) = some (r1, r2) := by first | (rw [hy317]; with_reducible exact H) | (have H2_ := (Option.bind_some _ _).symm.trans H; rw [hy317]; with_reducible exact H2_) | (have H2_ := (Option.bind_some _ _).symm.trans H; with_reducible exact H2_) | with_reducible exact H | (rw [hy317]; exact H) | exact H
                   have Ny317 := Aside0.mk hy317
                   clear hy317
                   obtain ⟨y318, hy318⟩ : ∃ y_ : List (S54), y_ = (y317.set ((ji29) : Int).toNat (⟨(rd_T54 x6_4 x9_4).f0, (rd_T54 x6_4 x9_4).f1⟩ : S54)) := ⟨_, rfl⟩
                   replace H : (agonicref05_Inverse.l1 k4 l0 y318 x7_3 ji29) = some (r1, r2) := by first | (rw [hy318]; with_reducible exact H) | (have H2_ := (Option.bind_some _ _).symm.trans H; rw [hy318]; with_reducible exact H2_) | (have H2_ := (Option.bind_some _ _).symm.trans H; with_reducible exact H2_) | with_reducible exact H | (rw [hy318]; exact H) | exact H
                   have Ny318 := Aside0.mk hy318
                   clear hy318
                   have H' := Aside0.mk H
                   clear H
                   try go_wp2
                   replace HO_6 := Aside0.mk (Kd.R_drew HO_6.out)
                   replace BK308 := Aside0.mk (blk_drew BK308.out)
                   replace HB := Aside0.mk (below_drew1 HB.out)
                   have p313 : 0 ≤ (x9_4 : Int) := zp
                   have q313 : x9_4 < (x6_4.length : Int) := zp
                   obtain ⟨ad313, e313, hx313_0, hx313_1⟩ := at_T54 (Kd.R_reads' HO_6.out).2.2 x9_4 p313 q313
                   cases e313
                   replace p313 := eq_true p313
                   replace q313 := eq_true q313
                   have p314 : 0 ≤ ((ji29) : Int) := zp
                   have q314 : (ji29) < (x6_4.length : Int) := zp
                   obtain ⟨ad314, e314, hx314_0, hx314_1⟩ := at_T54 (Kd.R_reads' HO_6.out).2.2 (ji29) p314 q314
                   obtain rfl : ad313 = ad314 := (by injection e314)
                   replace p314 := eq_true p314
                   replace q314 := eq_true q314
                   refine start_ (n := 16) (S := fun w' => w'.cell? (ad313.add ((x9_4).toNat * 2)) = some (.int .i64 ((rd_T54 x6_4 x9_4).f0)) ∧ w'.cell? ⟨(ad313.add ((x9_4).toNat * 2)).block, (ad313.add ((x9_4).toNat * 2)).off + 1, none⟩ = some (.int .i64 ((rd_T54 x6_4 x9_4).f1)) ∧ w'.cell? (ad313.add (((ji29)).toNat * 2)) = some (.int .i64 ((rd_T54 x6_4 (ji29)).f0)) ∧ w'.cell? ⟨(ad313.add (((ji29)).toNat * 2)).block, (ad313.add (((ji29)).toNat * 2)).off + 1, none⟩ = some (.int .i64 ((rd_T54 x6_4 (ji29)).f1))) (ds := []) #[false, false, false, false, false, false, false, false, false, false, false, false, false, false, false, false] (by kernel_rfl) rfl rfl ⟨hx313_0, hx313_1, hx314_0, hx314_1⟩ (fun hHeld => ?_); refine with_tabW agonicref05_Inverse.tab13 agonicref05_Inverse.bits13 (fun HT_ HW_ => ?_)
                   generalize wr.drew = w35 at HO_6 BK308 HB hx313_0 hx313_1 hx314_0 hx314_1 hHeld ⊢
                   refine pq HT_ 0 59 16 1 ?_
                   refine pq HT_ 1 60 16 3 ?_
                   refine pq HT_ 2 61 16 7 ?_
                   refine pq HT_ 3 62 16 15 ?_
                   refine pq HT_ 4 63 16 31 ?_
                   refine pq HT_ 5 64 16 63 ?_
                   refine pq HT_ 6 65 16 127 ?_
                   refine pq HT_ 8 67 16 383 ?_
                   refine pq HT_ 9 68 16 895 ?_
                   refine pq HT_ 10 69 16 1919 ?_
                   refine pq HT_ 11 70 16 3967 ?_
                   refine pq HT_ 12 71 16 8063 ?_
                   refine take_ (i := 7) (N := some 66) (v := ?_) (a' := ?_) #[true, true, true, true, true, true, true, true, true, true, true, true, true, false, false, false] rfl rfl (take_ofW HT_.out HW_.out (by kernel_rfl)) (fun _ _ _ h => h) (Or.inl ⟨by rfl, ?_⟩) hHeld ?_ ?_
                   rotate_left
                   ·rintro w' ⟨s0, s1, s2, s3⟩
                    go_simp
                    with_reducible rfl
                   rotate_left
                   ·simp only [Act.put, List.setIfInBounds_toArray, List.set_cons_zero, List.set_cons_succ, i64_w, i32_w]
                    rfl
                   refine take_ (i := 13) (N := some 72) (v := ?_) (a' := ?_) #[true, true, true, true, true, true, true, true, true, true, true, true, true, true, false, false] rfl rfl (take_ofW HT_.out HW_.out (by kernel_rfl)) (fun _ _ _ h => h) (Or.inl ⟨by rfl, ?_⟩) hHeld ?_ ?_
                   rotate_left
                   ·rintro w' ⟨s0, s1, s2, s3⟩
                    go_simp
                    with_reducible rfl
                   rotate_left
                   ·simp only [Act.put, List.setIfInBounds_toArray, List.set_cons_zero, List.set_cons_succ, i64_w, i32_w]
                    rfl
                   refine pq HT_ 14 73 16 32767 ?_
                   refine pq HT_ 15 74 16 65535 ?_
                   refine done_ (done_of HT_.out (by kernel_rfl)) ?_
                   try go_wp2
                   replace HO_6 := Aside0.mk (Kd.R_drew HO_6.out)
                   replace BK308 := Aside0.mk (blk_drew BK308.out)
                   replace HB := Aside0.mk (below_drew1 HB.out)
                   have p315 : 0 ≤ ((ji29) : Int) := zp
                   have q315 : (ji29) < (x6_4.length : Int) := zp
                   obtain ⟨ad315, e315, hx315_0, hx315_1⟩ := at_T54 (Kd.R_reads' HO_6.out).2.2 (ji29) p315 q315
                   obtain rfl : ad313 = ad315 := (by injection e315)
                   replace p315 := eq_true p315
                   replace q315 := eq_true q315
                   have p316 : 0 ≤ (x9_4 : Int) := zp
                   have q316 : x9_4 < (x6_4.length : Int) := zp
                   obtain ⟨ad316, e316, hx316_0, hx316_1⟩ := at_T54 (Kd.R_reads' HO_6.out).2.2 x9_4 p316 q316
                   obtain rfl : ad313 = ad316 := (by injection e316)
                   replace p316 := eq_true p316
                   replace q316 := eq_true q316
                   have p33 : 0 ≤ (x9_4 : Int) := zp
                   have q33 : (x9_4 : Int) < ((x6_4.length : Int) : Int) := zp
                   obtain ⟨go33, co33, eo33, gb33, gl33, cl33, HG33⟩ := Kd.R_form HO_6.out (by omega)
                   (first | cases eo33 | (injection eo33 with ea_ en_ ec_; (first | subst ea_ | (injection ea_ with ea_; subst ea_)); subst ec_; clear en_))
                   have GB33 := Aside0.mk gb33
                   have GG33 := Aside0.mk HG33
                   clear gb33 gl33 HG33
                   (first | simp only [add_plain] at hx313_0 | skip)
                   (first | simp only [add_plain] at hx313_1 | skip)
                   (first | simp only [add_plain] at hx314_0 | skip)
                   (first | simp only [add_plain] at hx314_1 | skip)
                   (first | simp only [add_plain] at hx315_0 | skip)
                   (first | simp only [add_plain] at hx315_1 | skip)
                   (first | simp only [add_plain] at hx316_0 | skip)
                   (first | simp only [add_plain] at hx316_1 | skip)
                   obtain ⟨ce33, hcl33, hM33, hcc33, hfr33⟩ := Kd.R_elem HO_6.out z54 (x9_4 : Int) p33 q33
                   obtain rfl := k54_openM hM33
                   have hx33_0 : World.cell? _ ⟨go33, (x9_4 : Int).toNat * 2, none⟩ = some (.int .i64 ((rd_T54 x6_4 x9_4).f0)) := hcc33 0 _ rfl
                   have hx33_1 : World.cell? _ ⟨go33, (x9_4 : Int).toNat * 2 + 1, none⟩ = some (.int .i64 ((rd_T54 x6_4 x9_4).f1)) := hcc33 1 _ rfl
                   have hf33_0 : World.frozen? _ ⟨go33, (x9_4 : Int).toNat * 2, none⟩ = false := hfr33 0
                   have hf33_1 : World.frozen? _ ⟨go33, (x9_4 : Int).toNat * 2 + 1, none⟩ = false := hfr33 1
                   clear hcl33 hcc33 hfr33 hM33
                   replace p33 := eq_true p33
                   replace q33 := eq_true q33
                   obtain ⟨ce37, hcl37, hM37, hcc37, hfr37⟩ := Kd.R_elem HO_6.out z54 (x9_4 : Int) (zp) (by have h_ : (x9_4 : Int) < ((x6_4.length : Int) : Int) := zp; first | exact h_ | (have e_ := (Kd.R_reads' HO_6.out).1; omega) | simpa using h_)
                   obtain rfl := k54_openM hM37
                   have HP37 := (Kd.R_seg HO_6.out (x9_4 : Int) (zp) (by have h_ : (x9_4 : Int) < ((x6_4.length : Int) : Int) := zp; first | exact h_ | (have e_ := (Kd.R_reads' HO_6.out).1; omega) | simpa using h_) (seg := [.int .i64 ((rd_T54 x6_4 (ji29)).f0), .int .i64 ((rd_T54 x6_4 (ji29)).f1)]) (j := 0) hcl37 hcc37 (show 2 ≤ 2 from by decide) (x' := (⟨(rd_T54 x6_4 (ji29)).f0, (rd_T54 x6_4 (ji29)).f1⟩ : S54)) (k54_mkM _ _ _ (⟨(rd_T54 x6_4 (ji29)).f0, (rd_T54 x6_4 (ji29)).f1⟩ : S54) ) (fun _ hk => hk)).1
                   rw [← Ny317.out] at HP37
                   have HQ37 := Aside0.mk HP37
                   clear hcl37 hcc37 hfr37 hM37 HP37
                   have p34 : 0 ≤ ((ji29) : Int) := zp
                   have q34 : ((ji29) : Int) < ((x6_4.length : Int) : Int) := zp
                   obtain ⟨ce34, hcl34, hM34, hcc34, hfr34⟩ := Kd.R_elem HQ37.out z54 ((ji29) : Int) p34 q34
                   obtain rfl := k54_openM hM34
                   have hx34_0 : World.cell? _ ⟨go33, ((ji29) : Int).toNat * 2, none⟩ = some (.int .i64 ((rd_T54 y317 (ji29)).f0)) := hcc34 0 _ rfl
                   have hx34_1 : World.cell? _ ⟨go33, ((ji29) : Int).toNat * 2 + 1, none⟩ = some (.int .i64 ((rd_T54 y317 (ji29)).f1)) := hcc34 1 _ rfl
                   have hf34_0 : World.frozen? _ ⟨go33, ((ji29) : Int).toNat * 2, none⟩ = false := hfr34 0
                   have hf34_1 : World.frozen? _ ⟨go33, ((ji29) : Int).toNat * 2 + 1, none⟩ = false := hfr34 1
                   clear hcl34 hcc34 hfr34 hM34
                   replace p34 := eq_true p34
                   replace q34 := eq_true q34
                   obtain ⟨ce38, hcl38, hM38, hcc38, hfr38⟩ := Kd.R_elem HQ37.out z54 ((ji29) : Int) (zp) (by have h_ : ((ji29) : Int) < ((x6_4.length : Int) : Int) := zp; first | exact h_ | (have e_ := (Kd.R_reads' HO_6.out).1; omega) | simpa using h_)
                   obtain rfl := k54_openM hM38
                   have HP38 := (Kd.R_seg HQ37.out ((ji29) : Int) (zp) (by have h_ : ((ji29) : Int) < ((x6_4.length : Int) : Int) := zp; first | exact h_ | (have e_ := (Kd.R_reads' HO_6.out).1; omega) | simpa using h_) (seg := [.int .i64 ((rd_T54 x6_4 x9_4).f0), .int .i64 ((rd_T54 x6_4 x9_4).f1)]) (j := 0) hcl38 hcc38 (show 2 ≤ 2 from by decide) (x' := (⟨(rd_T54 x6_4 x9_4).f0, (rd_T54 x6_4 x9_4).f1⟩ : S54)) (k54_mkM _ _ _ (⟨(rd_T54 x6_4 x9_4).f0, (rd_T54 x6_4 x9_4).f1⟩ : S54) ) (fun _ hk => hk)).1
                   rw [← Ny318.out] at HP38
                   have HQ38 := Aside0.mk HP38
                   clear hcl38 hcc38 hfr38 hM38 HP38
                   refine start_ (n := 18) (S := fun w' => w'.cell? ⟨go33, (((ji29)).toNat * 2), none⟩ = some (.int .i64 ((rd_T54 x6_4 (ji29)).f0)) ∧ w'.cell? ⟨go33, (((ji29)).toNat * 2) + 1, none⟩ = some (.int .i64 ((rd_T54 x6_4 (ji29)).f1)) ∧ w'.cell? ⟨go33, ((x9_4).toNat * 2), none⟩ = some (.int .i64 ((rd_T54 x6_4 x9_4).f0)) ∧ w'.cell? ⟨go33, ((x9_4).toNat * 2) + 1, none⟩ = some (.int .i64 ((rd_T54 x6_4 x9_4).f1))) (ds := [15, 17]) #[false, false, false, false, false, false, false, false, false, false, false, false, false, false, false, false, false, false] (by kernel_rfl) rfl rfl ⟨hx315_0, hx315_1, hx316_0, hx316_1⟩ (fun hHeld => ?_); refine with_tabW agonicref05_Inverse.tab15 agonicref05_Inverse.bits15 (fun HT_ HW_ => ?_)
                   generalize w35.drew = w36 at HO_6 BK308 HB GG33 HQ37 HQ38 hf33_0 hf33_1 hf34_0 hf34_1 hx313_0 hx313_1 hx314_0 hx314_1 hx315_0 hx315_1 hx316_0 hx316_1 hx33_0 hx33_1 hx34_0 hx34_1 hHeld ⊢
                   refine pq HT_ 0 77 18 1 ?_
                   refine pq HT_ 1 78 18 3 ?_
                   refine pq HT_ 2 79 18 7 ?_
                   refine pq HT_ 3 80 18 15 ?_
                   refine pq HT_ 4 81 18 31 ?_
                   refine pq HT_ 5 82 18 63 ?_
                   refine pq HT_ 6 83 18 127 ?_
                   refine pq HT_ 7 84 18 255 ?_
                   refine pq HT_ 8 85 18 511 ?_
                   refine pq HT_ 10 87 18 1535 ?_
                   refine pq HT_ 11 88 18 3583 ?_
                   refine pq HT_ 12 89 18 7679 ?_
                   refine take_ (i := 9) (N := some 86) (v := ?_) (a' := ?_) #[true, true, true, true, true, true, true, true, true, true, true, true, true, false, false, false, false, false] rfl rfl (take_ofW HT_.out HW_.out (by kernel_rfl)) (fun _ _ _ h => h) (Or.inl ⟨by rfl, ?_⟩) hHeld ?_ ?_
                   rotate_left
                   ·rintro w' ⟨s0, s1, s2, s3⟩
                    go_simp
                    with_reducible rfl
                   rotate_left
                   ·simp only [Act.put, List.setIfInBounds_toArray, List.set_cons_zero, List.set_cons_succ, i64_w, i32_w]
                    rfl
                   refine take_ (i := 13) (N := some 90) (v := ?_) (a' := ?_) #[true, true, true, true, true, true, true, true, true, true, true, true, true, true, false, false, false, false] rfl rfl (take_ofW HT_.out HW_.out (by kernel_rfl)) (fun _ _ _ h => h) (Or.inl ⟨by rfl, ?_⟩) hHeld ?_ ?_
                   rotate_left
                   ·rintro w' ⟨s0, s1, s2, s3⟩
                    go_simp
                    with_reducible rfl
                   rotate_left
                   ·simp only [Act.put, List.setIfInBounds_toArray, List.set_cons_zero, List.set_cons_succ, i64_w, i32_w]
                    rfl
                   refine pq HT_ 14 91 18 32767 ?_
                   refine last_ (i := 15) (N := none) #[true, true, true, true, true, true, true, true, true, true, true, true, true, true, true, true, false, false] rfl rfl (one_of HT_.out (by kernel_rfl)) (by decide) (fun K hK => ?_)
                   refine skip_ (w1 := ?_) (by rfl) rfl ?_ ?_
                   rotate_left
                   ·go_simp
                    rfl
                   refine hK.out _ _ ?_
                   clear hK K
                   refine pq HT_ 16 92 18 131071 ?_
                   obtain ⟨yy0_, hyy0_⟩ := cell?_setCell_some (p := ⟨go33, ((x9_4).toNat * 2), none⟩) (x := (.int .i64 ((rd_T54 x6_4 (ji29)).f0))) hx315_0
                   obtain ⟨yy1_, hyy1_⟩ := cell?_setCell_some (p := ⟨go33, ((x9_4).toNat * 2), none⟩) (x := (.int .i64 ((rd_T54 x6_4 (ji29)).f0))) hx315_1
                   obtain ⟨yy2_, hyy2_⟩ := cell?_setCell_some (p := ⟨go33, ((x9_4).toNat * 2) + 1, none⟩) (x := (.int .i64 ((rd_T54 x6_4 (ji29)).f1))) hyy1_
                   have hfz9_1 := blk_frozen GG33.out ((((ji29)).toNat * 2))
                   have hfz9_3 := blk_frozen GG33.out ((((ji29)).toNat * 2) + 1)
                   refine last_ (i := 17) (N := none) #[true, true, true, true, true, true, true, true, true, true, true, true, true, true, true, true, true, true] rfl rfl (one_of HT_.out (by kernel_rfl)) (by decide) (fun K hK => ?_)
                   refine skip_ (w1 := ?_) (by rfl) rfl ?_ ?_
                   rotate_left
                   ·go_simp
                    rfl
                   refine hK.out _ _ ?_
                   clear hK K
                   refine done_ (done_of HT_.out (by kernel_rfl)) ?_
                   try go_wp2
                   (try simp only [← hl6_4])
                   go_roundg k4
                   case measure => have := HJ2.out; have := HJ6.out; have := HK3.out; have := HK4.out; omega
                   case rel => exact ⟨(y318), (ji29), (by first | rfl | (simp; done) | (simp only [← hji29] <;> (first | rfl | simp)) | (simp [*]; done)), H', ⟨by have := HJ2.out; have := HJ6.out; have := HK3.out; have := HK4.out; omega⟩, ⟨by (try simp only [hl6_4]); refine zl ?_; exact HQ38.out⟩, ⟨by (try simp only [hl6_4]); refine zm ?_; refine blk_far ?_ (by have h_ := Kd.R_ne HO_6.out BK308.out (by decide); intro e_; exact h_ (by rw [e_]; rfl)) _; refine zm ?_; refine blk_far ?_ (by have h_ := Kd.R_ne HO_6.out BK308.out (by decide); intro e_; exact h_ (by rw [e_]; rfl)) _; refine zm ?_; refine blk_far ?_ (by have h_ := Kd.R_ne HO_6.out BK308.out (by decide); intro e_; exact h_ (by rw [e_]; rfl)) _; refine zm ?_; refine blk_far ?_ (by have h_ := Kd.R_ne HO_6.out BK308.out (by decide); intro e_; exact h_ (by rw [e_]; rfl)) _; refine zm ?_; exact BK308.out⟩, ⟨by repeat (first | (with_reducible first | exact HB.out | apply below_alloc | apply pw_below_drewN | apply below_drew1 | refine below_set ?_ GB33.out | refine below_set ?_ GB33.out | refine below_set ?_ GB33.out | refine below_set ?_ GB33.out | refine below_set ?_ GE308.out) | exact HB.out)⟩⟩
                  ·rw [if_neg c32] at H
                   have c32b0 : decide (((rd_T54 x6_4 x9_4).f0) < ((rd_T54 x6_4 (ji29)).f0)) = false := decide_eq_false c32
                   clear c32
                   have H' := Aside0.mk H
                   clear H
                   try go_wp2
                   replace HO_6 := Aside0.mk (Kd.R_drew HO_6.out)
                   replace BK308 := Aside0.mk (blk_drew BK308.out)
                   replace HB := Aside0.mk (below_drew1 HB.out)
                   have p313 : 0 ≤ (x9_4 : Int) := zp
                   have q313 : x9_4 < (x6_4.length : Int) := zp
                   obtain ⟨ad313, e313, hx313_0, hx313_1⟩ := at_T54 (Kd.R_reads' HO_6.out).2.2 x9_4 p313 q313
                   cases e313
                   replace p313 := eq_true p313
                   replace q313 := eq_true q313
                   have p314 : 0 ≤ ((ji29) : Int) := zp
                   have q314 : (ji29) < (x6_4.length : Int) := zp
                   obtain ⟨ad314, e314, hx314_0, hx314_1⟩ := at_T54 (Kd.R_reads' HO_6.out).2.2 (ji29) p314 q314
                   obtain rfl : ad313 = ad314 := (by injection e314)
                   replace p314 := eq_true p314
                   replace q314 := eq_true q314
                   refine start_ (n := 16) (S := fun w' => w'.cell? (ad313.add ((x9_4).toNat * 2)) = some (.int .i64 ((rd_T54 x6_4 x9_4).f0)) ∧ w'.cell? ⟨(ad313.add ((x9_4).toNat * 2)).block, (ad313.add ((x9_4).toNat * 2)).off + 1, none⟩ = some (.int .i64 ((rd_T54 x6_4 x9_4).f1)) ∧ w'.cell? (ad313.add (((ji29)).toNat * 2)) = some (.int .i64 ((rd_T54 x6_4 (ji29)).f0)) ∧ w'.cell? ⟨(ad313.add (((ji29)).toNat * 2)).block, (ad313.add (((ji29)).toNat * 2)).off + 1, none⟩ = some (.int .i64 ((rd_T54 x6_4 (ji29)).f1))) (ds := []) #[false, false, false, false, false, false, false, false, false, false, false, false, false, false, false, false] (by kernel_rfl) rfl rfl ⟨hx313_0, hx313_1, hx314_0, hx314_1⟩ (fun hHeld => ?_); refine with_tabW agonicref05_Inverse.tab13 agonicref05_Inverse.bits13 (fun HT_ HW_ => ?_)
                   generalize wr.drew = w39 at HO_6 BK308 HB hx313_0 hx313_1 hx314_0 hx314_1 hHeld ⊢
                   refine pq HT_ 0 59 16 1 ?_
                   refine pq HT_ 1 60 16 3 ?_
                   refine pq HT_ 2 61 16 7 ?_
                   refine pq HT_ 3 62 16 15 ?_
                   refine pq HT_ 4 63 16 31 ?_
                   refine pq HT_ 5 64 16 63 ?_
                   refine pq HT_ 6 65 16 127 ?_
                   refine pq HT_ 8 67 16 383 ?_
                   refine pq HT_ 9 68 16 895 ?_
                   refine pq HT_ 10 69 16 1919 ?_
                   refine pq HT_ 11 70 16 3967 ?_
                   refine pq HT_ 12 71 16 8063 ?_
                   refine take_ (i := 7) (N := some 66) (v := ?_) (a' := ?_) #[true, true, true, true, true, true, true, true, true, true, true, true, true, false, false, false] rfl rfl (take_ofW HT_.out HW_.out (by kernel_rfl)) (fun _ _ _ h => h) (Or.inl ⟨by rfl, ?_⟩) hHeld ?_ ?_
                   rotate_left
                   ·rintro w' ⟨s0, s1, s2, s3⟩
                    go_simp
                    with_reducible rfl
                   rotate_left
                   ·simp only [Act.put, List.setIfInBounds_toArray, List.set_cons_zero, List.set_cons_succ, i64_w, i32_w]
                    rfl
                   refine take_ (i := 13) (N := some 72) (v := ?_) (a' := ?_) #[true, true, true, true, true, true, true, true, true, true, true, true, true, true, false, false] rfl rfl (take_ofW HT_.out HW_.out (by kernel_rfl)) (fun _ _ _ h => h) (Or.inl ⟨by rfl, ?_⟩) hHeld ?_ ?_
                   rotate_left
                   ·rintro w' ⟨s0, s1, s2, s3⟩
                    go_simp
                    with_reducible rfl
                   rotate_left
                   ·simp only [Act.put, List.setIfInBounds_toArray, List.set_cons_zero, List.set_cons_succ, i64_w, i32_w]
                    rfl
                   refine pq HT_ 14 73 16 32767 ?_
                   refine pq HT_ 15 74 16 65535 ?_
                   refine done_ (done_of HT_.out (by kernel_rfl)) ?_
                   try go_wp2
                   (try simp only [← hl6_4])
                   go_roundg k4
                   case measure => have := HJ2.out; have := HJ6.out; have := HK3.out; have := HK4.out; omega
                   case rel => exact ⟨(x6_4), (wrap64 (x7_3 + 1)), (by first | rfl | (simp; done) | (simp [*]; done)), H', ⟨by have := HJ2.out; have := HJ6.out; have := HK3.out; have := HK4.out; omega⟩, ⟨by (try simp only [hl6_4]); refine zl ?_; exact HO_6.out⟩, ⟨zh⟩⟩
                 ·rw [if_neg c31] at H
                  exact absurd H (by simp)
                ·rw [if_neg c30] at H
                 exact absurd H (by simp)
               ·rw [if_neg c28] at H
                exact absurd H (by simp)
              ·rw [if_neg c27] at H
               exact absurd H (by simp)
             ·rw [if_neg c26] at H
              have c26b0 : decide (0 < x9_4) = false := decide_eq_false c26
              clear c26
              have H' := Aside0.mk H
              clear H
              try go_wp2
              replace HO_6 := Aside0.mk (Kd.R_drew HO_6.out)
              replace BK308 := Aside0.mk (blk_drew BK308.out)
              replace HB := Aside0.mk (below_drew1 HB.out)
              refine start_ (n := 16) (S := fun w' => True) (ds := []) #[false, false, false, false, false, false, false, false, false, false, false, false, false, false, false, false] (by kernel_rfl) rfl rfl trivial (fun hHeld => ?_); refine with_tabW agonicref05_Inverse.tab13 agonicref05_Inverse.bits13 (fun HT_ HW_ => ?_)
              generalize wr.drew = w40 at HO_6 BK308 HB hHeld ⊢
              refine pq HT_ 0 59 16 1 ?_
              refine pq HT_ 1 60 16 3 ?_
              refine pq HT_ 2 61 16 7 ?_
              refine pu (i := 3) (N := some 62) (zA 16 15) rfl rfl (any_of HT_.out (by kernel_rfl)) ?_
              refine pu (i := 4) (N := some 63) (zA 16 31) rfl rfl (any_of HT_.out (by kernel_rfl)) ?_
              refine pu (i := 5) (N := some 64) (zA 16 63) rfl rfl (any_of HT_.out (by kernel_rfl)) ?_
              refine pu (i := 6) (N := some 65) (zA 16 127) rfl rfl (any_of HT_.out (by kernel_rfl)) ?_
              refine pu (i := 7) (N := some 66) (zA 16 255) rfl rfl (any_of HT_.out (by kernel_rfl)) ?_
              refine pu (i := 8) (N := some 67) (zA 16 511) rfl rfl (any_of HT_.out (by kernel_rfl)) ?_
              refine pu (i := 9) (N := some 68) (zA 16 1023) rfl rfl (any_of HT_.out (by kernel_rfl)) ?_
              refine pu (i := 10) (N := some 69) (zA 16 2047) rfl rfl (any_of HT_.out (by kernel_rfl)) ?_
              refine pu (i := 11) (N := some 70) (zA 16 4095) rfl rfl (any_of HT_.out (by kernel_rfl)) ?_
              refine pu (i := 12) (N := some 71) (zA 16 8191) rfl rfl (any_of HT_.out (by kernel_rfl)) ?_
              refine pu (i := 13) (N := some 72) (zA 16 16383) rfl rfl (any_of HT_.out (by kernel_rfl)) ?_
              refine pu (i := 14) (N := some 73) (zA 16 32767) rfl rfl (any_of HT_.out (by kernel_rfl)) ?_
              refine pq HT_ 15 74 16 65535 ?_
              refine done_ (done_of HT_.out (by kernel_rfl)) ?_
              try go_wp2
              (try simp only [← hl6_4])
              go_roundg k4
              case measure => have := HJ2.out; have := HJ6.out; have := HK3.out; have := HK4.out; omega
              case rel => exact ⟨(x6_4), (wrap64 (x7_3 + 1)), (by first | rfl | (simp; done) | (simp [*]; done)), H', ⟨by have := HJ2.out; have := HJ6.out; have := HK3.out; have := HK4.out; omega⟩, ⟨by (try simp only [hl6_4]); refine zl ?_; exact HO_6.out⟩, ⟨zh⟩⟩
          ·rw [if_neg c14] at H
           exact absurd H (by simp)
         ·rw [if_neg c11] at H
          exact absurd H (by simp)
        ·rw [if_neg c10] at H
         have c10b0 : decide (x7_3 < (l0.length : Int)) = false := decide_eq_false c10
         clear c10
         simp only [Option.some.injEq, Prod.mk.injEq] at H
         obtain ⟨rfl, rfl⟩ := H
         go_wp2
         go_ret2
         exact ⟨_, ze, by refine zl ?_; exact HO_6.out, zh⟩
     ·rw [if_neg c9] at H
      have c9b0 : (x5_6 == 0) = false := beq_eq_false_iff_ne.mpr c9
      have c9b1 : (x5_6 != 0) = true := bne_iff_ne.mpr c9
      simp only [Option.some.injEq, Prod.mk.injEq] at H
      obtain ⟨rfl, rfl⟩ := H
      go_wp2
      go_ret2
      exact ⟨_, ze, by first | exact Kd.R_nil _ _ _ _ _ | exact Kd.N_nil _ _ _ _ _ | exact Kd.V_nil _ _ _ _ _ | exact Kd.Q_nil _ _ _ _ _ | exact Kd.S_nil _ _ _ _ _, zh⟩
end Go.Proofs.Ytccjefoejjnccaa.C
