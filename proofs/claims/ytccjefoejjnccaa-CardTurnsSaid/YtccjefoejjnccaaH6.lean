-- Written by a program of this session (wip/tools/myprint.py, over the kit's print).
import Derived.Test.YtccjefoejjnccaaH5
import Derived.Test.YtccjefoejjnccaaZ
namespace Go.Proofs.Ytccjefoejjnccaa.C
open Go.Proofs.Ytccjefoejjnccaa.H Go.Proofs.YtccjefoejjnccaaH Go.RowKit Go.Proofs.YtccjefoejjnccaaW.PrintWords Go.Proofs.YtccjefoejjnccaaW.PrintLast Go.Proofs.YtccjefoejjnccaaW.PrintMore
set_option linter.unusedSimpArgs false
theorem field101_0 (a b : Int) (w : World) : (Instr.field 101 (.agg #[.int .i64 a, .int .i64 b]) 0).run Try.prog w = .ok (.int .i64 a) w := by
 have hu101 := Try.underlying101; simp [Instr.field, go_sem, hu101, part, asAgg]
theorem field101_1 (a b : Int) (w : World) : (Instr.field 101 (.agg #[.int .i64 a, .int .i64 b]) 1).run Try.prog w = .ok (.int .i64 b) w := by
 have hu101 := Try.underlying101; simp [Instr.field, go_sem, hu101, part, asAgg]
attribute [local go_sem] field101_0 field101_1 max2_int min2_int max_two min_two max_three min_three max_four min_four   -- for this text's walks alone
set_option linter.unusedVariables false
set_option linter.unusedSimpArgs false
def okPs (xs : List S55) : Bool := decide (xs.length ≤ 1000000) && decide (xs.Pairwise fun x y => x.f0 ≠ y.f0)
theorem ltP_eq (x y : S55) : ltP x y = decide (x.f0 < y.f0) := cmp3_lt _ _
theorem pairwise_ne {xs : List S55} (h : xs.Pairwise fun x y => x.f0 ≠ y.f0) : ∀ x ∈ xs, ∀ y ∈ xs, x.f0 = y.f0 → x = y := by
 induction xs with
 | nil => intro x hx; cases hx
 | cons z zs ih =>
  rw [List.pairwise_cons] at h
  intro x hx y hy e
  rcases List.mem_cons.1 hx with rfl | hx' <;> rcases List.mem_cons.1 hy with rfl | hy'
  ·rfl
  ·exact absurd e (h.1 y hy')
  ·exact absurd e.symm (h.1 x hx')
  ·exact ih h.2 x hx' y hy' e
theorem okPs_total {xs : List S55} (h : okPs xs = true) : TotalOn ltP xs := by
 simp only [okPs, Bool.and_eq_true, decide_eq_true_eq] at h
 refine ⟨fun x _ => by rw [ltP_eq]; simp, fun x _ y _ z _ h1 h2 => ?_, fun x _ y _ z _ h1 h2 => ?_, fun x hx y hy h1 h2 => ?_⟩
 ·rw [ltP_eq, decide_eq_true_eq] at h1 h2 ⊢; omega
 ·rw [ltP_eq, decide_eq_false_iff_not] at h1 h2 ⊢; omega
 ·rw [ltP_eq, decide_eq_false_iff_not] at h1 h2
  exact pairwise_ne h.2 x hx y hy (by omega)
def card_Inverse.l0 : Nat → List (S55) → List (S55) → Int → Int → Option ((List (S55)) × Int)
 | 0, _, _, _, _ => none
 | k + 1, x5, x19, x20, x21 => if x21 < x20 then (if 0 ≤ x21 then (if x21 < (x19.length : Int) then ((card_Point_course.f ((rd_T55 x19 x21).f0) ((rd_T55 x19 x21).f1)).bind fun t125 => ((card_whole.f t125).bind fun bt126 => ((card_ratio_around.f bt126.1 bt126.2).bind fun bt128 => (if x5.length < 8796093022208 then (card_Inverse.l0 k (x5 ++ [(⟨bt128.1, wrap64 (-((rd_T55 x19 x21).f1))⟩ : S55)]) x19 x20 (wrap64 (x21 + 1))) else (none))))) else (none)) else (none)) else (if okPs x5 = true then some (x5.mergeSort (fun x y => !ltP y x), 0) else none)
def card_Inverse.f (k : Nat) (l0 : List (S55)) : Option ((List (S55)) × Int) := (card_Check.f k l0).bind fun t119 => (if t119 = 0 then ((card_Card_folds.f l0).bind fun t120 => (if (t120.length : Int) > 0 then (some (([] : List (S55)), 21)) else (card_Inverse.l0 k ([] : List (S55)) l0 (l0.length : Int) 0))) else (some (([] : List (S55)), t119)))
def card_Inverse.T10 : Bool × List (List Nat × List Nat) := (true, [([], []), ([], []), ([1], [1]), ([2, 2], [2]), ([3, 3], [3]), ([4], [4]), ([], []), ([6], [6]), ([7], [7]), ([5, 8], [5, 8]), ([9], [9]), ([0, 10, 4], [0, 10]), ([11, 11, 0, 1, 2, 3, 4, 5, 6, 7, 8, 9, 10, 11], [0, 11])])
def card_Inverse.B10 : List Nat := [0, 0, 2, 6, 14, 30, 0, 64, 192, 510, 1022, 2047, 4095]
theorem card_Inverse.tab10 : rtab .any (opsOf Try.f28 10) = card_Inverse.T10 := by kernel_rfl
theorem card_Inverse.bits10 : waitsOk card_Inverse.T10.2 card_Inverse.B10 = true := by kernel_rfl
set_option maxHeartbeats 8000000 in
set_option maxRecDepth 100000 in
theorem card_Inverse.calls (k : Nat) (A0 : Option Addr) (c0 : Nat) (l0 : List (S55)) (r1 : List (S55)) (r2 : Int) (w : World) (hr0 : Kd.C k55 w A0 l0.length l0) (hc0 : l0.length ≤ c0) (h : card_Inverse.f k l0 = some (r1, r2)) :
  Calls Try.prog 28 #[.slice A0 l0.length c0] w fun e w' => ∃ v0_ : Value, e = .returned (.tuple #[v0_, .int .i64 r2]) ∧ Kd.R k55 55 w' w.heap.size (fun _ => True) v0_ r1 ∧ Below w.heap.size w w' := by
 have hu55 := Try.underlying55
 have hu101 := Try.underlying101
 have HR0 := Aside0.mk hr0
 have HC0 := Aside0.mk hc0
 clear hr0 hc0
 have HB := Aside0.mk (Below.refl w.heap.size w)
 have H : ((card_Check.f k l0).bind fun t119 => (if t119 = 0 then ((card_Card_folds.f l0).bind fun t120 => (if (t120.length : Int) > 0 then (some (([] : List (S55)), 21)) else (card_Inverse.l0 k ([] : List (S55)) l0 (l0.length : Int) 0))) else (some (([] : List (S55)), t119)))) = some (r1, r2) := h
 clear h
 replace H := zi H
 obtain ⟨t119, A20, H⟩ := H
 try dsimp only at H
 have A2 := Aside0.mk A20
 clear A20
 by_cases c3 : t119 = 0
 ·rw [if_pos c3] at H
  have c3b0 : (t119 == 0) = true := beq_iff_eq.mpr c3
  have c3b1 : (t119 != 0) = false := bne_eq_false_iff_eq.mpr c3
  clear c3
  replace H := zi H
  obtain ⟨t120, A40, H⟩ := H
  try dsimp only at H
  have A4 := Aside0.mk A40
  clear A40
  by_cases c5 : (t120.length : Int) > 0
  ·rw [if_pos c5] at H
   have c5b0 : decide (0 < (t120.length : Int)) = true := decide_eq_true c5
   have c5b1 : decide (0 < t120.length) = true := decide_eq_true (by omega)
   clear c5
   simp only [Option.some.injEq, Prod.mk.injEq] at H
   obtain ⟨rfl, rfl⟩ := H
   go_enter Try.func28, Try.ntmps28
   go_wp2_with (first | ((with_reducible refine gC 21 rfl ?_); refine gL 9 Try.func21 #[.slice A0 l0.length c0] ?_; (with_reducible refine (card_Check.calls k _ _ l0 t119 _ ?side1 ?side2 A2.out).mono ?_); (case side1 => exact zc HR0.out); (case side2 => exact HC0.out); rintro e w6 ⟨rfl, hb⟩; refine ⟨_, rfl, ?_⟩; replace HB := zd hb; (try clear hb)) | ((with_reducible refine gC 59 rfl ?_); refine gL 16 Try.func59 #[.slice A0 l0.length c0] ?_; (with_reducible refine (card_Card_folds.calls _ _ l0 t120 _ ?side1 ?side2 A4.out).mono ?_); (case side1 => exact zc (Kd.C_below HR0.out HB.out)); (case side2 => exact HC0.out); rintro e w7 ⟨v121, rfl, ho0, hb⟩; refine ⟨_, rfl, ?_⟩; have HO122 := Aside0.mk (Kd.R_lower ho0 (below_size zh)); replace HB := zd hb; (try clear hb); (try clear ho0); obtain ⟨Ao8, co8, eo8⟩ := Kd.R_slice HO122.out; subst eo8))
   go_ret2
   exact ⟨_, ze, by first | exact Kd.R_nil _ _ _ _ _ | exact Kd.N_nil _ _ _ _ _ | exact Kd.V_nil _ _ _ _ _ | exact Kd.Q_nil _ _ _ _ _ | exact Kd.S_nil _ _ _ _ _, zh⟩
  ·rw [if_neg c5] at H
   have c5b0 : decide (0 < (t120.length : Int)) = false := decide_eq_false c5
   have c5b1 : decide (0 < t120.length) = false := decide_eq_false (by omega)
   clear c5
   have H' := Aside0.mk H
   clear H
   go_enter Try.func28, Try.ntmps28
   go_wp2_with (first | ((with_reducible refine gC 21 rfl ?_); refine gL 9 Try.func21 #[.slice A0 l0.length c0] ?_; (with_reducible refine (card_Check.calls k _ _ l0 t119 _ ?side1 ?side2 A2.out).mono ?_); (case side1 => exact zc HR0.out); (case side2 => exact HC0.out); rintro e w9 ⟨rfl, hb⟩; refine ⟨_, rfl, ?_⟩; replace HB := zd hb; (try clear hb)) | ((with_reducible refine gC 59 rfl ?_); refine gL 16 Try.func59 #[.slice A0 l0.length c0] ?_; (with_reducible refine (card_Card_folds.calls _ _ l0 t120 _ ?side1 ?side2 A4.out).mono ?_); (case side1 => exact zc (Kd.C_below HR0.out HB.out)); (case side2 => exact HC0.out); rintro e w10 ⟨v121, rfl, ho0, hb⟩; refine ⟨_, rfl, ?_⟩; have HO122 := Aside0.mk (Kd.R_lower ho0 (below_size zh)); replace HB := zd hb; (try clear hb); (try clear ho0); obtain ⟨Ao11, co11, eo11⟩ := Kd.R_slice HO122.out; subst eo11))
   go_loopg [5, 21] k (fun kq v5 v21 w' => ∃ (x5_1 : List (S55)) (x21_1 : Int), v21 = .int .i64 x21_1 ∧ Aside0 (card_Inverse.l0 kq x5_1 l0 (l0.length : Int) x21_1 = some (r1, r2)) ∧ Aside0 (kq ≤ k) ∧ Aside0 (Kd.R k55 55 w' w.heap.size (fun _ => True) v5 x5_1) ∧ Aside0 (Below w.heap.size w w'))
   case atStart => exact ⟨(([] : List (S55))), (0), (by first | rfl | (simp; done) | (simp [*]; done)), H', ⟨Nat.le_refl _⟩, ⟨by first | exact Kd.R_nil _ _ _ _ _ | exact Kd.N_nil _ _ _ _ _ | exact Kd.V_nil _ _ _ _ _ | exact Kd.Q_nil _ _ _ _ _ | exact Kd.S_nil _ _ _ _ _⟩, ⟨zh⟩⟩
   case round =>
    clear H'
    try clear c2
    try clear p2
    try clear c3
    try clear c3b0
    try clear c3b1
    try clear c5
    try clear c5b0
    try clear c5b1
    obtain ⟨x5_1, x21_1, rfl, HA, HK1, HO_5, HB⟩ := hrel
    cases gk with
    | zero => exact absurd HA.out (by simp [card_Inverse.l0])
    | succ k1 =>
     have H := HA.out
     clear HA
     simp only [card_Inverse.l0] at H
     by_cases c12 : x21_1 < (l0.length : Int)
     ·rw [if_pos c12] at H
      have c12b0 : decide (x21_1 < (l0.length : Int)) = true := decide_eq_true c12
      clear c12
      by_cases c13 : 0 ≤ x21_1
      ·rw [if_pos c13] at H
       have c13b0 : decide (0 ≤ x21_1) = true := decide_eq_true c13
       clear c13
       by_cases c14 : x21_1 < (l0.length : Int)
       ·rw [if_pos c14] at H
        have c14b0 : decide (x21_1 < (l0.length : Int)) = true := decide_eq_true c14
        clear c14
        replace H := zi H
        obtain ⟨t125, A150, H⟩ := H
        try dsimp only at H
        have A15 := Aside0.mk A150
        clear A150
        replace H := zi H
        obtain ⟨⟨t126, t127⟩, A160, H⟩ := H
        try dsimp only at H
        have A16 := Aside0.mk A160
        clear A160
        replace H := zi H
        obtain ⟨⟨t128, t129⟩, A170, H⟩ := H
        try dsimp only at H
        have A17 := Aside0.mk A170
        clear A170
        by_cases c18 : x5_1.length < 8796093022208
        ·rw [if_pos c18] at H
         have LMc18 := Aside0.mk c18
         clear c18
         obtain ⟨y130, hy130⟩ : ∃ y_ : List (S55), y_ = (x5_1 ++ [(⟨t128, wrap64 (-((rd_T55 l0 x21_1).f1))⟩ : S55)]) := ⟨_, rfl⟩
         replace H : (card_Inverse.l0 k1 y130 l0 (l0.length : Int) (wrap64 (x21_1 + 1))) = some (r1, r2) := by first | (rw [hy130]; with_reducible exact H) | (have H2_ := (Option.bind_some _ _).symm.trans H; rw [hy130]; with_reducible exact H2_) | (have H2_ := (Option.bind_some _ _).symm.trans H; with_reducible exact H2_) | with_reducible exact H | (rw [hy130]; exact H) | exact H
         have Ny130 := Aside0.mk hy130
         clear hy130
         have H' := Aside0.mk H
         clear H
         have p123 : 0 ≤ (x21_1 : Int) := zp
         have q123 : x21_1 < (l0.length : Int) := zp
         obtain ⟨ad123, e123, hx123_0, hx123_1⟩ := at_T55 HR0.out x21_1 p123 q123
         cases e123
         replace hx123_0 := (HB.out.cell (World.block_lt_of_cell? w _ hx123_0)).trans hx123_0
         replace hx123_1 := (HB.out.cell (World.block_lt_of_cell? w _ hx123_1)).trans hx123_1
         replace p123 := eq_true p123
         replace q123 := eq_true q123
         try go_wp2_with (first | ((with_reducible refine gD 7 rfl ?_); refine zx 7 #[.int .i64 0, .int .i64 0] 55 ?_; intro gb124 hg w19 hbox hb; replace HO_5 := Aside0.mk (Kd.R_below (Kd.R_elderB (zo HO_5.out) gb124 (Nat.le_of_eq hg.symm)) hb); have BK124 := Aside0.mk (hbox); have GE124 := zG w hg; replace HB := zd hb; clear hb hbox hg; have hcz20_0 : w19.cell? ⟨gb124, 0, none⟩ = some (.int .i64 0) := zy BK124 0; have hcz20_1 : w19.cell? ⟨gb124, 1, none⟩ = some (.int .i64 0) := zy BK124 1; have hfz20_0 := blk_frozen BK124.out 0; have hfz20_1 := blk_frozen BK124.out 1))
         have n0_ : Aside0 (Kd.R k55 55 ((w19.setCell ⟨gb124, 0, none⟩ (.int .i64 ((rd_T55 l0 x21_1).f0))).setCell ⟨gb124, 1, none⟩ (.int .i64 ((rd_T55 l0 x21_1).f1))) w.heap.size (fun k_ => k_ ≠ gb124) u5 x5_1) := ⟨by refine zl ?_; exact Kd.R_mono (Kd.R_far (p := ⟨gb124, 1, none⟩) (Kd.R_far (p := ⟨gb124, 0, none⟩) (Kd.R_mono HO_5.out (fun k_ hk => (⟨hk, hk.2⟩ : _ ∧ k_ ≠ gb124))) (fun _ hk => hk.2) (.int .i64 ((rd_T55 l0 x21_1).f0))) (fun _ hk => hk.2) (.int .i64 ((rd_T55 l0 x21_1).f1))) (fun _ hk => hk.1.2)⟩
         have n1_ : Aside0 (((w19.setCell ⟨gb124, 0, none⟩ (.int .i64 ((rd_T55 l0 x21_1).f0))).setCell ⟨gb124, 1, none⟩ (.int .i64 ((rd_T55 l0 x21_1).f1))).heap[gb124]? = some (.cells #[.int .i64 ((rd_T55 l0 x21_1).f0), .int .i64 ((rd_T55 l0 x21_1).f1)] 55 (0, 0))) := ⟨by refine zm ?_; refine blk_put (cs := #[.int .i64 ((rd_T55 l0 x21_1).f0), .int .i64 0]) ?_ 1 _ rfl; refine zm ?_; refine blk_put (cs := #[.int .i64 0, .int .i64 0]) ?_ 0 _ rfl; refine zm ?_; exact BK124.out⟩
         have n2_ : Aside0 (Below w.heap.size w ((w19.setCell ⟨gb124, 0, none⟩ (.int .i64 ((rd_T55 l0 x21_1).f0))).setCell ⟨gb124, 1, none⟩ (.int .i64 ((rd_T55 l0 x21_1).f1)))) := ⟨zh⟩
         (try clear HO_5)
         (try clear BK124)
         (try clear HB)
         generalize ((w19.setCell ⟨gb124, 0, none⟩ (.int .i64 ((rd_T55 l0 x21_1).f0))).setCell ⟨gb124, 1, none⟩ (.int .i64 ((rd_T55 l0 x21_1).f1))) = w21 at n0_ n1_ n2_ ⊢
         have HO_5 := n0_
         have BK124 := n1_
         have HB := n2_
         clear n0_ n1_ n2_
         replace HO_5 := Aside0.mk (Kd.R_drew HO_5.out)
         replace BK124 := Aside0.mk (blk_drew BK124.out)
         replace HB := Aside0.mk (below_drew1 HB.out)
         refine start_ (n := 13) (S := fun w' => w'.cell? ⟨gb124, 0, none⟩ = some (.int .i64 ((rd_T55 l0 x21_1).f0)) ∧ w'.cell? ⟨gb124, 1, none⟩ = some (.int .i64 ((rd_T55 l0 x21_1).f1))) (ds := []) #[false, false, false, false, false, false, false, false, false, false, false, false, false] (by kernel_rfl) rfl rfl ⟨zy BK124 0, zy BK124 1⟩ (fun hHeld => ?_); refine with_tabW card_Inverse.tab10 card_Inverse.bits10 (fun HT_ HW_ => ?_)
         generalize w21.drew = w22 at HO_5 BK124 HB hHeld ⊢
         refine pq HT_ 0 25 13 1 ?_
         refine pq HT_ 6 31 13 65 ?_
         refine take_ (i := 1) (N := some 26) (v := ?_) (a' := ?_) #[true, true, false, false, false, false, true, false, false, false, false, false, false] rfl rfl (take_ofW HT_.out HW_.out (by kernel_rfl)) (fun _ _ _ h => h) (Or.inl ⟨by rfl, ?_⟩) hHeld ?_ ?_
         rotate_left
         ·rintro w' ⟨s0, s1⟩
          go_simp
          with_reducible rfl
         rotate_left
         ·simp only [Act.put, List.setIfInBounds_toArray, List.set_cons_zero, List.set_cons_succ, i64_w, i32_w]
          rfl
         refine take_ (i := 7) (N := some 32) (v := ?_) (a' := ?_) #[true, true, false, false, false, false, true, true, false, false, false, false, false] rfl rfl (take_ofW HT_.out HW_.out (by kernel_rfl)) (fun _ _ _ h => h) (Or.inl ⟨by rfl, ?_⟩) hHeld ?_ ?_
         rotate_left
         ·rintro w' ⟨s0, s1⟩
          go_simp
          with_reducible rfl
         rotate_left
         ·simp only [Act.put, List.setIfInBounds_toArray, List.set_cons_zero, List.set_cons_succ, i64_w, i32_w]
          rfl
         refine pq HT_ 8 33 13 451 ?_
         refine one_ (i := 2) (N := some 27) #[true, true, true, false, false, false, true, true, true, false, false, false, false] rfl rfl (one_of HT_.out (by kernel_rfl)) (by decide) (fun K hK => ?_)
         refine goes_ Try.func71 (by kernel_rfl) rfl #[.agg #[.int .i64 ((rd_T55 l0 x21_1).f0), .int .i64 ((rd_T55 l0 x21_1).f1)]] (by rfl) rfl rfl zs ?_
         with_reducible refine (card_Point_course.calls ((rd_T55 l0 x21_1).f0) ((rd_T55 l0 x21_1).f1) t125 _ A15.out).mono ?_
         rintro e w23 ⟨rfl, hb⟩
         refine ⟨_, rfl, ?_⟩
         replace HO_5 := zr HO_5 hb
         replace BK124 := zk BK124 hb
         replace HB := zd hb
         (try clear hb)
         (try clear hb2)
         (try clear hk)
         (try clear hi)
         refine hK.out _ _ ⟨zy BK124 0, zy BK124 1⟩ (fun hHeld => ?_)
         clear hK K
         refine norm_ (a' := ?_) ?_ ?_
         rotate_left
         ·show Act.put _ (some 27) _ = _
          simp only [Act.put, List.setIfInBounds_toArray, List.set_cons_zero, List.set_cons_succ, i64_w, i32_w]
          rfl
         refine one_ (i := 3) (N := some 28) #[true, true, true, true, false, false, true, true, true, false, false, false, false] rfl rfl (one_of HT_.out (by kernel_rfl)) (by decide) (fun K hK => ?_)
         refine goes_ Try.func54 (by kernel_rfl) rfl #[.int .i64 t125] (by rfl) rfl rfl zs ?_
         with_reducible refine (card_whole.calls t125 t126 t127 _ A16.out).mono ?_
         rintro e w24 ⟨rfl, hb⟩
         refine ⟨_, rfl, ?_⟩
         replace HO_5 := zr HO_5 hb
         replace BK124 := zk BK124 hb
         replace HB := zd hb
         (try clear hb)
         (try clear hb2)
         (try clear hk)
         (try clear hi)
         refine hK.out _ _ ⟨zy BK124 0, zy BK124 1⟩ (fun hHeld => ?_)
         clear hK K
         refine norm_ (a' := ?_) ?_ ?_
         rotate_left
         ·show Act.put _ (some 28) _ = _
          simp only [Act.put, List.setIfInBounds_toArray, List.set_cons_zero, List.set_cons_succ, i64_w, i32_w]
          rfl
         refine one_ (i := 4) (N := some 29) #[true, true, true, true, true, false, true, true, true, false, false, false, false] rfl rfl (one_of HT_.out (by kernel_rfl)) (by decide) (fun K hK => ?_)
         refine goes_ Try.func72 (by kernel_rfl) rfl #[.agg #[.int .i64 t126, .int .i64 t127]] (by rfl) rfl rfl zs ?_
         with_reducible refine (card_ratio_around.calls t126 t127 t128 t129 _ A17.out).mono ?_
         rintro e w25 ⟨rfl, hb⟩
         refine ⟨_, rfl, ?_⟩
         replace HO_5 := zr HO_5 hb
         replace BK124 := zk BK124 hb
         replace HB := zd hb
         (try clear hb)
         (try clear hb2)
         (try clear hk)
         (try clear hi)
         refine hK.out _ _ ⟨zy BK124 0, zy BK124 1⟩ (fun hHeld => ?_)
         clear hK K
         refine norm_ (a' := ?_) ?_ ?_
         rotate_left
         ·show Act.put _ (some 29) _ = _
          simp only [Act.put, List.setIfInBounds_toArray, List.set_cons_zero, List.set_cons_succ, i64_w, i32_w]
          rfl
         refine pq HT_ 5 30 13 511 ?_
         refine pq HT_ 9 34 13 1023 ?_
         refine one_ (i := 10) (N := some 35) #[true, true, true, true, true, true, true, true, true, true, true, false, false] rfl rfl (one_of HT_.out (by kernel_rfl)) (by decide) (fun K hK => ?_)
         refine value_ (w1 := ?_) (v := ?_) (by rfl) rfl ?_ ?_
         rotate_left 2
         ·go_simp
          constructor
          ·rfl
          ·rfl
         refine hK.out _ _ ⟨(blk_cell (blk_alloc BK124.out _) 0).trans rfl, (blk_cell (blk_alloc BK124.out _) 1).trans rfl⟩ (fun hHeld => ?_)
         clear hK K
         refine norm_ (a' := ?_) ?_ ?_
         rotate_left
         ·show Act.put _ (some 35) _ = _
          simp only [Act.put, List.setIfInBounds_toArray, List.set_cons_zero, List.set_cons_succ, i64_w, i32_w]
          rfl
         refine one_ (i := 11) (N := some 36) #[true, true, true, true, true, true, true, true, true, true, true, true, false] rfl rfl (one_of HT_.out (by kernel_rfl)) (by decide) (fun K hK => ?_)
         refine Kd.R_append_step k55 (w0 := w) w.heap.size (by rfl) (.tmp 25) (.tmp 35) 23 55 (.agg #[(.int .i64 0), (.int .i64 0)]) 16 rfl Try.underlying23 info55 rfl (by decide) (by omega) u5 x5_1 (⟨t128, wrap64 (-((rd_T55 l0 x21_1).f1))⟩ : S55) [.int .i64 t128, .int .i64 (wrap64 (-((rd_T55 l0 x21_1).f1)))] (fun k_ => k_ ≠ gb124) (fun _ => False) rfl rfl ?aP (fun _ hk => hk.elim) ?aF ?aO ?aB ?aS ?aL ?_
         (case aP => exact k55_mkM _ _ _ (⟨t128, wrap64 (-((rd_T55 l0 x21_1).f1))⟩ : S55))
         (case aB => exact zh)
         (case aF => exact (fun k_ hk => Kd.freshB (g := gb124) (o := .cells #[.int .i64 ((rd_T55 l0 x21_1).f0), .int .i64 ((rd_T55 l0 x21_1).f1)] 55 (0, 0)) (zb BK124) k_ hk))
         (case aO => exact (zo HO_5.out))
         (case aS => exact (below_size zh))
         (case aL => have := LMc18.out; omega)
         intro v131 w26 ho hb hg hat
         rw [← Ny130.out] at ho
         replace BK124 := Aside0.mk (blk_grown (g := gb124) (o := .cells #[.int .i64 ((rd_T55 l0 x21_1).f0), .int .i64 ((rd_T55 l0 x21_1).f1)] 55 (0, 0)) (zb BK124) hg (Kd.R_away HO_5.out (fun _ hk => hk)))
         replace HB := Aside0.mk (hb)
         have HO132 := Aside0.mk (ho)
         clear HO_5
         clear ho hb hg hat
         refine hK.out _ _ ⟨zy BK124 0, zy BK124 1⟩ (fun hHeld => ?_)
         clear hK K
         refine norm_ (a' := ?_) ?_ ?_
         rotate_left
         ·show Act.put _ (some 36) _ = _
          simp only [Act.put, List.setIfInBounds_toArray, List.set_cons_zero, List.set_cons_succ, i64_w, i32_w]
          rfl
         refine pq HT_ 12 5 13 8191 ?_
         refine done_ (done_of HT_.out (by kernel_rfl)) ?_
         try go_wp2
         go_roundg k1
         case measure => have := HK1.out; omega
         case rel => exact ⟨(y130), (wrap64 (x21_1 + 1)), (by first | rfl | (simp; done) | (simp [*]; done)), H', ⟨by have := HK1.out; omega⟩, ⟨by refine zl ?_; exact Kd.R_mono HO132.out (fun _ hk => trivial)⟩, ⟨zh⟩⟩
        ·rw [if_neg c18] at H
         exact absurd H (by simp)
       ·rw [if_neg c14] at H
        exact absurd H (by simp)
      ·rw [if_neg c13] at H
       exact absurd H (by simp)
     ·rw [if_neg c12] at H
      have c12b0 : decide (x21_1 < (l0.length : Int)) = false := decide_eq_false c12
      clear c12
      have hok : okPs x5_1 = true := by
       cases hb : okPs x5_1 with
       | true => rfl
       | false => rw [hb, if_neg (by simp)] at H; cases H
      rw [hok, if_pos rfl] at H
      simp only [Option.some.injEq, Prod.mk.injEq] at H
      obtain ⟨rfl, rfl⟩ := H
      have HT := Aside0.mk (okPs_total hok)
      have HLN : Aside0 (x5_1.length ≤ 1000000) := ⟨by simp only [okPs, Bool.and_eq_true, decide_eq_true_eq] at hok; exact hok.1⟩
      clear hok
      obtain ⟨A9, c9, hv9⟩ := Kd.R_slice HO_5.out
      subst hv9
      go_wp2_with (refine (sortP_calls w.heap.size _ x5_1 _ HT.out HLN.out (R55_flat HO_5.out)).mono ?_; rintro e w9 ⟨rfl, hs1, hs2⟩)
      go_ret2
      refine ⟨_, rfl, ?_, ?_⟩
      ·refine R55_of ?_
       rw [List.length_mergeSort]
       exact hs1
      ·exact HB.out.grown hs2 HB.out.size fun j ej => own_base (Kd.R_own HO_5.out).choose_spec j ej
 ·rw [if_neg c3] at H
  have c3b0 : (t119 == 0) = false := beq_eq_false_iff_ne.mpr c3
  have c3b1 : (t119 != 0) = true := bne_iff_ne.mpr c3
  simp only [Option.some.injEq, Prod.mk.injEq] at H
  obtain ⟨rfl, rfl⟩ := H
  go_enter Try.func28, Try.ntmps28
  go_wp2_with (first | ((with_reducible refine gC 21 rfl ?_); refine gL 9 Try.func21 #[.slice A0 l0.length c0] ?_; (with_reducible refine (card_Check.calls k _ _ l0 t119 _ ?side1 ?side2 A2.out).mono ?_); (case side1 => exact zc HR0.out); (case side2 => exact HC0.out); rintro e w27 ⟨rfl, hb⟩; refine ⟨_, rfl, ?_⟩; replace HB := zd hb; (try clear hb)))
  go_ret2
  exact ⟨_, ze, by first | exact Kd.R_nil _ _ _ _ _ | exact Kd.N_nil _ _ _ _ _ | exact Kd.V_nil _ _ _ _ _ | exact Kd.Q_nil _ _ _ _ _ | exact Kd.S_nil _ _ _ _ _, zh⟩
end Go.Proofs.Ytccjefoejjnccaa.C
