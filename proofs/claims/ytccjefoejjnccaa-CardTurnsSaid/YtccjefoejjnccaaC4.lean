-- Written by a program of this session (wip/tools/myprint.py, over the kit's print).
import Derived.Test.YtccjefoejjnccaaC0
import Derived.Test.YtccjefoejjnccaaC1
import Derived.Test.YtccjefoejjnccaaC3
import Derived.Test.YtccjefoejjnccaaZ
namespace Go.Proofs.Ytccjefoejjnccaa.C
open Go.RowKit Go.Proofs.YtccjefoejjnccaaW.PrintWords Go.Proofs.YtccjefoejjnccaaW.PrintLast Go.Proofs.YtccjefoejjnccaaW.PrintMore
attribute [local go_sem] max2_int min2_int max_two min_two max_three min_three max_four min_four   -- for this text's walks alone
set_option linter.unusedVariables false
set_option linter.unusedSimpArgs false
attribute [local go_sem high] eqA29
def card_ratio_plus.l0 : Nat → List (S101) → Int → Int → Int → Int → Option (Int × Int)
 | 0, _, _, _, _, _ => none
 | k + 1, x8, x9, x10, x121000, x121001 => if x10 < x9 then (if 0 ≤ x10 then (if x10 < (x8.length : Int) then ((card_divisor.f k x121001 ((rd_T101 x8 x10).f1)).bind fun t124 => (if t124 = 0 then (none) else ((card_ratio_plain.f k (wrap64 ((wrap64 (x121000 * (wrap64 (Int.tdiv ((rd_T101 x8 x10).f1) t124)))) + (wrap64 (((rd_T101 x8 x10).f0) * (wrap64 (Int.tdiv x121001 t124)))))) (wrap64 ((wrap64 (Int.tdiv x121001 t124)) * ((rd_T101 x8 x10).f1)))).bind fun bt125 => (card_ratio_plus.l0 k x8 x9 (wrap64 (x10 + 1)) bt125.1 bt125.2)))) else (none)) else (none)) else (some (x121000, x121001))
def card_ratio_plus.f (k : Nat) (a0_0 : Int) (a0_1 : Int) (l1 : List (S101)) : Option (Int × Int) := card_ratio_plus.l0 k l1 (l1.length : Int) 0 a0_0 a0_1
def card_ratio_plus.T5 : Bool × List (List Nat × List Nat) := (true, [([], []), ([0], [0]), ([], []), ([2], [2]), ([], []), ([3, 4], [3, 4]), ([1, 5], [1, 5]), ([], []), ([7], [7]), ([], []), ([9], [9]), ([], []), ([10, 11], [10, 11]), ([8, 12], [8, 12]), ([6, 13], [6, 13]), ([], []), ([15], [15]), ([], []), ([16, 17], [16, 17]), ([], []), ([19], [19]), ([18, 20], [18, 20]), ([14, 21], [14, 21]), ([22], [22]), ([23, 23, 0, 1, 2, 3, 4, 5, 6, 7, 8, 9, 10, 11, 12, 13, 14, 15, 16, 17, 18, 19, 20, 21, 22, 23], [23])])
def card_ratio_plus.B5 : List Nat := [0, 1, 0, 4, 0, 28, 63, 0, 128, 0, 512, 0, 3584, 8064, 16383, 0, 32768, 0, 229376, 0, 524288, 2064384, 4194303, 8388607, 16777215]
theorem card_ratio_plus.tab5 : rtab .any (opsOf Try.f76 5) = card_ratio_plus.T5 := by kernel_rfl
theorem card_ratio_plus.bits5 : waitsOk card_ratio_plus.T5.2 card_ratio_plus.B5 = true := by kernel_rfl
set_option maxHeartbeats 8000000 in
set_option maxRecDepth 100000 in
theorem card_ratio_plus.calls (k : Nat) (a0_0 : Int) (a0_1 : Int) (A1 : Option Addr) (c1 : Nat) (l1 : List (S101)) (r1 : Int) (r2 : Int) (w : World) (hr1 : Kd.C k101 w A1 l1.length l1) (hc1 : l1.length ≤ c1) (h : card_ratio_plus.f k a0_0 a0_1 l1 = some (r1, r2)) :
  Calls Try.prog 76 #[.agg #[.int .i64 a0_0, .int .i64 a0_1], .slice A1 l1.length c1] w fun e w' => e = .returned (.agg #[.int .i64 r1, .int .i64 r2]) ∧ Below w.heap.size w w' := by
 have hu101 := Try.underlying101
 have HR1 := Aside0.mk hr1
 have HC1 := Aside0.mk hc1
 clear hr1 hc1
 have HB := Aside0.mk (Below.refl w.heap.size w)
 have H : (card_ratio_plus.l0 k l1 (l1.length : Int) 0 a0_0 a0_1) = some (r1, r2) := h
 clear h
 have H' := Aside0.mk H
 clear H
 go_enter Try.func76, Try.ntmps76
 go_wp2_with (first | ((with_reducible refine gD 2 rfl ?_); refine zx 2 #[.int .i64 a0_0, .int .i64 a0_1] 101 ?_; intro gb120 hg w3 hbox hb; have BK120 := Aside0.mk (hbox); have GE120 := zG w hg; replace HB := zd hb; clear hb hbox hg) | ((with_reducible refine gD 4 rfl ?_); refine zx 4 #[.int .i64 0, .int .i64 0] 101 ?_; intro gb121 hg w4 hbox hb; have BK121 := Aside0.mk (hbox); have GE121 := zG w hg; replace HB := zd hb; have NB120_121 := zN BK120 hg; have NB121_120 := zM BK120 hg; replace BK120 := zk BK120 hb; clear hb hbox hg))
 go_loopg [10] k (fun kq v10 w' => ∃ (x10_1 : Int) (x121000_1 : Int) (x121001_1 : Int), v10 = .int .i64 x10_1 ∧ Aside0 (card_ratio_plus.l0 kq l1 (l1.length : Int) x10_1 x121000_1 x121001_1 = some (r1, r2)) ∧ Aside0 (kq ≤ k) ∧ Aside0 (w'.heap[gb120]? = some (.cells #[.int .i64 x121000_1, .int .i64 x121001_1] 101 (0, 0))) ∧ Aside0 (w'.heap[gb121]? = some (.cells #[.int .i64 0, .int .i64 0] 101 (0, 0))) ∧ Aside0 (Below w.heap.size w w'))
 case atStart => exact ⟨(0), (a0_0), (a0_1), (by first | rfl | (simp; done) | (simp [*]; done)), H', ⟨Nat.le_refl _⟩, ⟨by refine zm ?_; exact BK120.out⟩, ⟨by refine zm ?_; exact BK121.out⟩, ⟨zh⟩⟩
 case round =>
  clear H'
  try clear c1
  try clear p2
  obtain ⟨x10_1, x121000_1, x121001_1, rfl, HA, HK1, BK120, BK121, HB⟩ := hrel
  cases gk with
  | zero => exact absurd HA.out (by simp [card_ratio_plus.l0])
  | succ k1 =>
   have H := HA.out
   clear HA
   simp only [card_ratio_plus.l0] at H
   by_cases c5 : x10_1 < (l1.length : Int)
   ·rw [if_pos c5] at H
    have c5b0 : decide (x10_1 < (l1.length : Int)) = true := decide_eq_true c5
    clear c5
    by_cases c6 : 0 ≤ x10_1
    ·rw [if_pos c6] at H
     have c6b0 : decide (0 ≤ x10_1) = true := decide_eq_true c6
     clear c6
     by_cases c7 : x10_1 < (l1.length : Int)
     ·rw [if_pos c7] at H
      have c7b0 : decide (x10_1 < (l1.length : Int)) = true := decide_eq_true c7
      clear c7
      replace H := zi H
      obtain ⟨t124, A80, H⟩ := H
      try dsimp only at H
      have A8 := Aside0.mk A80
      clear A80
      by_cases c9 : t124 = 0
      ·rw [if_pos c9] at H
       exact absurd H (by simp)
      ·rw [if_neg c9] at H
       have c9b0 : (t124 == 0) = false := beq_eq_false_iff_ne.mpr c9
       have c9b1 : (t124 != 0) = true := bne_iff_ne.mpr c9
       replace H := zi H
       obtain ⟨⟨t125, t126⟩, A100, H⟩ := H
       try dsimp only at H
       have A10 := Aside0.mk A100
       clear A100
       have H' := Aside0.mk H
       clear H
       have p122 : 0 ≤ (x10_1 : Int) := zp
       have q122 : x10_1 < (l1.length : Int) := zp
       obtain ⟨ad122, e122, hx122_0, hx122_1⟩ := at_T101 HR1.out x10_1 p122 q122
       cases e122
       replace hx122_0 := (HB.out.cell (World.block_lt_of_cell? w _ hx122_0)).trans hx122_0
       replace hx122_1 := (HB.out.cell (World.block_lt_of_cell? w _ hx122_1)).trans hx122_1
       replace p122 := eq_true p122
       replace q122 := eq_true q122
       try go_wp2_with (first | ((with_reducible refine gD 6 rfl ?_); refine zx 6 #[.int .i64 0, .int .i64 0] 101 ?_; intro gb123 hg w11 hbox hb; have BK123 := Aside0.mk (hbox); have GE123 := zG w hg; replace HB := zd hb; have NB120_123 := zN BK120 hg; have NB123_120 := zM BK120 hg; replace BK120 := zk BK120 hb; have NB121_123 := zN BK121 hg; have NB123_121 := zM BK121 hg; replace BK121 := zk BK121 hb; clear hb hbox hg; have hnb12 := NB123_120.out; have hnc12 := NB120_123.out; have hnb13 := NB123_121.out; have hnc13 := NB121_123.out; have hcz14_0 : w11.cell? ⟨gb123, 0, none⟩ = some (.int .i64 0) := zy BK123 0; have hcz14_1 : w11.cell? ⟨gb123, 1, none⟩ = some (.int .i64 0) := zy BK123 1; have hfz14_0 := blk_frozen BK123.out 0; have hfz14_1 := blk_frozen BK123.out 1; have hnb15 := NB120_121.out; have hnc15 := NB121_120.out; have hcz16_0 : w11.cell? ⟨gb120, 0, none⟩ = some (.int .i64 x121000_1) := zy BK120 0; have hcz16_1 : w11.cell? ⟨gb120, 1, none⟩ = some (.int .i64 x121001_1) := zy BK120 1; have hfz16_0 := blk_frozen BK120.out 0; have hfz16_1 := blk_frozen BK120.out 1) | ((with_reducible refine gC 96 rfl ?_); refine gL 18 Try.func96 #[.int .i64 x121001_1, .int .i64 ((rd_T101 l1 x10_1).f1)] ?_; (with_reducible refine (card_divisor.calls k1 x121001_1 ((rd_T101 l1 x10_1).f1) t124 _ A8.out).mono ?_); rintro e w17 ⟨rfl, hb⟩; refine ⟨_, rfl, ?_⟩; replace BK120 := Aside0.mk (blk_below (g := gb120) (o := .cells #[.int .i64 x121000_1, .int .i64 x121001_1] 101 (0, 0)) (by refine zm ?_; refine blk_far ?_ NB120_123.out _; refine zm ?_; refine blk_far ?_ NB120_123.out _; refine zm ?_; exact BK120.out) hb); replace BK121 := Aside0.mk (blk_below (g := gb121) (o := .cells #[.int .i64 0, .int .i64 0] 101 (0, 0)) (by refine zm ?_; refine blk_far ?_ NB121_123.out _; refine zm ?_; refine blk_far ?_ NB121_123.out _; refine zm ?_; exact BK121.out) hb); replace BK123 := Aside0.mk (blk_below (g := gb123) (o := .cells #[.int .i64 ((rd_T101 l1 x10_1).f0), .int .i64 ((rd_T101 l1 x10_1).f1)] 101 (0, 0)) (by refine zm ?_; refine blk_put (cs := #[.int .i64 ((rd_T101 l1 x10_1).f0), .int .i64 0]) ?_ 1 _ rfl; refine zm ?_; refine blk_put (cs := #[.int .i64 0, .int .i64 0]) ?_ 0 _ rfl; refine zm ?_; exact BK123.out) hb); replace HB := zd hb; (try clear hb)))
       replace BK120 := Aside0.mk (blk_drew BK120.out)
       replace BK121 := Aside0.mk (blk_drew BK121.out)
       replace BK123 := Aside0.mk (blk_drew BK123.out)
       replace HB := Aside0.mk (below_drew1 HB.out)
       refine start_ (n := 25) (S := fun w' => w'.cell? ⟨gb120, 0, none⟩ = some (.int .i64 x121000_1) ∧ w'.cell? ⟨gb120, 1, none⟩ = some (.int .i64 x121001_1) ∧ w'.cell? ⟨gb123, 0, none⟩ = some (.int .i64 ((rd_T101 l1 x10_1).f0)) ∧ w'.cell? ⟨gb123, 1, none⟩ = some (.int .i64 ((rd_T101 l1 x10_1).f1))) (ds := [24]) #[false, false, false, false, false, false, false, false, false, false, false, false, false, false, false, false, false, false, false, false, false, false, false, false, false] (by kernel_rfl) rfl rfl ⟨zy BK120 0, zy BK120 1, zy BK123 0, zy BK123 1⟩ (fun hHeld => ?_); refine with_tabW card_ratio_plus.tab5 card_ratio_plus.bits5 (fun HT_ HW_ => ?_)
       generalize w17.drew = w18 at BK120 BK121 BK123 HB hHeld ⊢
       refine pq HT_ 0 19 25 1 ?_
       refine pq HT_ 2 21 25 5 ?_
       refine pq HT_ 4 23 25 21 ?_
       refine pq HT_ 7 26 25 149 ?_
       refine pq HT_ 9 28 25 661 ?_
       refine pq HT_ 11 30 25 2709 ?_
       refine pq HT_ 15 34 25 35477 ?_
       refine pq HT_ 17 36 25 166549 ?_
       refine pq HT_ 19 38 25 690837 ?_
       refine take_ (i := 1) (N := some 20) (v := ?_) (a' := ?_) #[true, true, true, false, true, false, false, true, false, true, false, true, false, false, false, true, false, true, false, true, false, false, false, false, false] rfl rfl (take_ofW HT_.out HW_.out (by kernel_rfl)) (fun _ _ _ h => h) (Or.inl ⟨by rfl, ?_⟩) hHeld ?_ ?_
       rotate_left
       ·rintro w' ⟨s0, s1, s2, s3⟩
        go_simp
        with_reducible rfl
       rotate_left
       ·simp only [Act.put, List.setIfInBounds_toArray, List.set_cons_zero, List.set_cons_succ, i64_w, i32_w]
        rfl
       refine take_ (i := 3) (N := some 22) (v := ?_) (a' := ?_) #[true, true, true, true, true, false, false, true, false, true, false, true, false, false, false, true, false, true, false, true, false, false, false, false, false] rfl rfl (take_ofW HT_.out HW_.out (by kernel_rfl)) (fun _ _ _ h => h) (Or.inl ⟨by rfl, ?_⟩) hHeld ?_ ?_
       rotate_left
       ·rintro w' ⟨s0, s1, s2, s3⟩
        go_simp
        with_reducible rfl
       rotate_left
       ·simp only [Act.put, List.setIfInBounds_toArray, List.set_cons_zero, List.set_cons_succ, i64_w, i32_w]
        rfl
       refine pq HT_ 5 24 25 690879 ?_
       refine pq HT_ 6 25 25 690943 ?_
       refine take_ (i := 8) (N := some 27) (v := ?_) (a' := ?_) #[true, true, true, true, true, true, true, true, true, true, false, true, false, false, false, true, false, true, false, true, false, false, false, false, false] rfl rfl (take_ofW HT_.out HW_.out (by kernel_rfl)) (fun _ _ _ h => h) (Or.inl ⟨by rfl, ?_⟩) hHeld ?_ ?_
       rotate_left
       ·rintro w' ⟨s0, s1, s2, s3⟩
        go_simp
        with_reducible rfl
       rotate_left
       ·simp only [Act.put, List.setIfInBounds_toArray, List.set_cons_zero, List.set_cons_succ, i64_w, i32_w]
        rfl
       refine take_ (i := 10) (N := some 29) (v := ?_) (a' := ?_) #[true, true, true, true, true, true, true, true, true, true, true, true, false, false, false, true, false, true, false, true, false, false, false, false, false] rfl rfl (take_ofW HT_.out HW_.out (by kernel_rfl)) (fun _ _ _ h => h) (Or.inl ⟨by rfl, ?_⟩) hHeld ?_ ?_
       rotate_left
       ·rintro w' ⟨s0, s1, s2, s3⟩
        go_simp
        with_reducible rfl
       rotate_left
       ·simp only [Act.put, List.setIfInBounds_toArray, List.set_cons_zero, List.set_cons_succ, i64_w, i32_w]
        rfl
       refine pq HT_ 12 31 25 696319 ?_
       refine pq HT_ 13 32 25 704511 ?_
       refine pq HT_ 14 33 25 720895 ?_
       refine take_ (i := 16) (N := some 35) (v := ?_) (a' := ?_) #[true, true, true, true, true, true, true, true, true, true, true, true, true, true, true, true, true, true, false, true, false, false, false, false, false] rfl rfl (take_ofW HT_.out HW_.out (by kernel_rfl)) (fun _ _ _ h => h) (Or.inl ⟨by rfl, ?_⟩) hHeld ?_ ?_
       rotate_left
       ·rintro w' ⟨s0, s1, s2, s3⟩
        go_simp
        with_reducible rfl
       rotate_left
       ·simp only [Act.put, List.setIfInBounds_toArray, List.set_cons_zero, List.set_cons_succ, i64_w, i32_w]
        rfl
       refine pq HT_ 18 37 25 1048575 ?_
       refine take_ (i := 20) (N := some 39) (v := ?_) (a' := ?_) #[true, true, true, true, true, true, true, true, true, true, true, true, true, true, true, true, true, true, true, true, true, false, false, false, false] rfl rfl (take_ofW HT_.out HW_.out (by kernel_rfl)) (fun _ _ _ h => h) (Or.inl ⟨by rfl, ?_⟩) hHeld ?_ ?_
       rotate_left
       ·rintro w' ⟨s0, s1, s2, s3⟩
        go_simp
        with_reducible rfl
       rotate_left
       ·simp only [Act.put, List.setIfInBounds_toArray, List.set_cons_zero, List.set_cons_succ, i64_w, i32_w]
        rfl
       refine pq HT_ 21 40 25 4194303 ?_
       refine pq HT_ 22 41 25 8388607 ?_
       refine one_ (i := 23) (N := some 42) #[true, true, true, true, true, true, true, true, true, true, true, true, true, true, true, true, true, true, true, true, true, true, true, true, false] rfl rfl (one_of HT_.out (by kernel_rfl)) (by decide) (fun K hK => ?_)
       refine goes_ Try.func88 (by kernel_rfl) rfl #[.agg #[.int .i64 (wrap64 ((wrap64 (x121000_1 * (wrap64 (Int.tdiv ((rd_T101 l1 x10_1).f1) t124)))) + (wrap64 (((rd_T101 l1 x10_1).f0) * (wrap64 (Int.tdiv x121001_1 t124)))))), .int .i64 (wrap64 ((wrap64 (Int.tdiv x121001_1 t124)) * ((rd_T101 l1 x10_1).f1)))]] (by rfl) rfl rfl zs ?_
       with_reducible refine (card_ratio_plain.calls k1 (wrap64 ((wrap64 (x121000_1 * (wrap64 (Int.tdiv ((rd_T101 l1 x10_1).f1) t124)))) + (wrap64 (((rd_T101 l1 x10_1).f0) * (wrap64 (Int.tdiv x121001_1 t124)))))) (wrap64 ((wrap64 (Int.tdiv x121001_1 t124)) * ((rd_T101 l1 x10_1).f1))) t125 t126 _ A10.out).mono ?_
       rintro e w19 ⟨rfl, hb⟩
       refine ⟨_, rfl, ?_⟩
       replace BK120 := zk BK120 hb
       replace BK121 := zk BK121 hb
       replace BK123 := zk BK123 hb
       replace HB := zd hb
       (try clear hb)
       (try clear hb2)
       (try clear hk)
       (try clear hi)
       refine hK.out _ _ ⟨zy BK120 0, zy BK120 1, zy BK123 0, zy BK123 1⟩ (fun hHeld => ?_)
       clear hK K
       refine norm_ (a' := ?_) ?_ ?_
       rotate_left
       ·show Act.put _ (some 42) _ = _
        simp only [Act.put, List.setIfInBounds_toArray, List.set_cons_zero, List.set_cons_succ, i64_w, i32_w]
        rfl
       refine last_ (i := 24) (N := none) #[true, true, true, true, true, true, true, true, true, true, true, true, true, true, true, true, true, true, true, true, true, true, true, true, true] rfl rfl (one_of HT_.out (by kernel_rfl)) (by decide) (fun K hK => ?_)
       have hs20 : w19.cell? ⟨gb120, 0, none⟩ = some (.int .i64 x121000_1) := zy BK120 0
       have hfs20 := blk_frozen BK120.out 0
       have hns20_1 := NB121_120.out
       have hns20_2 := NB123_120.out
       have hms20_1 := NB120_121.out
       have hms20_2 := NB120_123.out
       have hs21 : w19.cell? ⟨gb120, 1, none⟩ = some (.int .i64 x121001_1) := zy BK120 1
       have hfs21 := blk_frozen BK120.out 1
       have hns21_1 := NB121_120.out
       have hns21_2 := NB123_120.out
       have hms21_1 := NB120_121.out
       have hms21_2 := NB120_123.out
       refine skip_ (w1 := ?_) (by rfl) rfl ?_ ?_
       rotate_left
       ·go_simp
        rfl
       refine hK.out _ _ ?_
       clear hK K
       refine done_ (done_of HT_.out (by kernel_rfl)) ?_
       try go_wp2
       go_roundg k1
       case measure => have := HK1.out; omega
       case rel => exact ⟨(wrap64 (x10_1 + 1)), (t125), (t126), (by first | rfl | (simp; done) | (simp [*]; done)), H', ⟨by have := HK1.out; omega⟩, ⟨by refine zm ?_; refine blk_put (cs := #[.int .i64 t125, .int .i64 x121001_1]) ?_ 1 _ rfl; refine zm ?_; refine blk_put (cs := #[.int .i64 x121000_1, .int .i64 x121001_1]) ?_ 0 _ rfl; refine zm ?_; exact BK120.out⟩, ⟨by refine zm ?_; refine blk_far ?_ NB121_120.out _; refine zm ?_; refine blk_far ?_ NB121_120.out _; refine zm ?_; exact BK121.out⟩, ⟨zh⟩⟩
     ·rw [if_neg c7] at H
      exact absurd H (by simp)
    ·rw [if_neg c6] at H
     exact absurd H (by simp)
   ·rw [if_neg c5] at H
    have c5b0 : decide (x10_1 < (l1.length : Int)) = false := decide_eq_false c5
    clear c5
    simp only [Option.some.injEq, Prod.mk.injEq] at H
    obtain ⟨rfl, rfl⟩ := H
    have hnb22 := NB120_121.out
    have hnc22 := NB121_120.out
    have hcz23_0 : wr.cell? ⟨gb120, 0, none⟩ = some (.int .i64 x121000_1) := zy BK120 0
    have hcz23_1 : wr.cell? ⟨gb120, 1, none⟩ = some (.int .i64 x121001_1) := zy BK120 1
    have hfz23_0 := blk_frozen BK120.out 0
    have hfz23_1 := blk_frozen BK120.out 1
    have hcz24_0 : wr.cell? ⟨gb121, 0, none⟩ = some (.int .i64 0) := zy BK121 0
    have hcz24_1 : wr.cell? ⟨gb121, 1, none⟩ = some (.int .i64 0) := zy BK121 1
    have hfz24_0 := blk_frozen BK121.out 0
    have hfz24_1 := blk_frozen BK121.out 1
    go_wp2
    refine bodyPost_ret (results_cell_row rfl _ _ gb121 101 #[.int .i64 x121000_1, .int .i64 x121001_1] (0, 0) _ rfl (by refine zm ?_; refine blk_put (cs := #[.int .i64 x121000_1, .int .i64 0]) ?_ 1 _ rfl; refine zm ?_; refine blk_put (cs := #[.int .i64 0, .int .i64 0]) ?_ 0 _ rfl; refine zm ?_; exact BK121.out) Try.underlying101 rfl (by kernel_rfl)) rfl ?_
    exact ⟨ze, zh⟩
def cmp_isNaN_int.f (a0 : Int) : Option (Bool) := some (a0 != a0)
set_option maxHeartbeats 8000000 in
set_option maxRecDepth 100000 in
theorem cmp_isNaN_int.calls (a0 : Int) (r : Bool) (w : World) (h : cmp_isNaN_int.f a0 = some r) :
  Calls Try.prog 95 #[.int .i64 a0] w fun e w' => e = .returned (.bool r) ∧ Drawn0 w w' := by
 have H : (some (a0 != a0)) = some r := h
 clear h
 obtain rfl := Option.some.inj H
 go_enter Try.func95, Try.ntmps95
 go_wp2
 go_ret
 exact ⟨by first | rfl | (simp; done) | (simp [*]; done), by repeat (first | exact Drawn0.refl _ | apply Drawn0.step)⟩
def cmp_Compare_int.f (a0 : Int) (a1 : Int) : Option (Int) := (cmp_isNaN_int.f a0).bind fun t127 => ((cmp_isNaN_int.f a1).bind fun t128 => (if t127 = true then (if t128 = true then (some 0) else (some (-1))) else (if t128 = true then (some 1) else (if a0 < a1 then (some (-1)) else (if a0 > a1 then (some 1) else (some 0))))))
set_option maxHeartbeats 8000000 in
set_option maxRecDepth 100000 in
theorem cmp_Compare_int.calls (a0 : Int) (a1 : Int) (r : Int) (w : World) (h : cmp_Compare_int.f a0 a1 = some r) :
  Calls Try.prog 75 #[.int .i64 a0, .int .i64 a1] w fun e w' => e = .returned (.int .i64 r) ∧ Drawn0 w w' := by
 have H : ((cmp_isNaN_int.f a0).bind fun t127 => ((cmp_isNaN_int.f a1).bind fun t128 => (if t127 = true then (if t128 = true then (some 0) else (some (-1))) else (if t128 = true then (some 1) else (if a0 < a1 then (some (-1)) else (if a0 > a1 then (some 1) else (some 0))))))) = some r := h
 clear h
 replace H := zi H
 obtain ⟨t127, A30, H⟩ := H
 try dsimp only at H
 have A3 := Aside0.mk A30
 clear A30
 replace H := zi H
 obtain ⟨t128, A40, H⟩ := H
 try dsimp only at H
 have A4 := Aside0.mk A40
 clear A40
 by_cases c5 : t127 = true
 ·subst c5
  rw [if_pos rfl] at H
  by_cases c6 : t128 = true
  ·subst c6
   rw [if_pos rfl] at H
   obtain rfl := Option.some.inj H
   go_enter Try.func75, Try.ntmps75
   go_wp2_with (first | ((with_reducible refine gC 95 rfl ?_); refine gL 8 Try.func95 #[.int .i64 a0] ?_; (with_reducible refine (cmp_isNaN_int.calls a0 true _ A3.out).mono ?_); rintro e w' ⟨rfl, ⟨nd, rfl⟩⟩; refine ⟨_, rfl, ?_⟩) | ((with_reducible refine gC 95 rfl ?_); refine gL 10 Try.func95 #[.int .i64 a1] ?_; (with_reducible refine (cmp_isNaN_int.calls a1 true _ A4.out).mono ?_); rintro e w' ⟨rfl, ⟨nd, rfl⟩⟩; refine ⟨_, rfl, ?_⟩))
   go_ret
   exact ⟨by first | rfl | (simp; done) | (simp [*]; done), by repeat (first | exact Drawn0.refl _ | apply Drawn0.step)⟩
  ·replace c6 := Bool.eq_false_iff.mpr c6
   subst c6
   rw [if_neg (show ¬ (false = true) by decide)] at H
   obtain rfl := Option.some.inj H
   go_enter Try.func75, Try.ntmps75
   go_wp2_with (first | ((with_reducible refine gC 95 rfl ?_); refine gL 8 Try.func95 #[.int .i64 a0] ?_; (with_reducible refine (cmp_isNaN_int.calls a0 true _ A3.out).mono ?_); rintro e w' ⟨rfl, ⟨nd, rfl⟩⟩; refine ⟨_, rfl, ?_⟩) | ((with_reducible refine gC 95 rfl ?_); refine gL 10 Try.func95 #[.int .i64 a1] ?_; (with_reducible refine (cmp_isNaN_int.calls a1 false _ A4.out).mono ?_); rintro e w' ⟨rfl, ⟨nd, rfl⟩⟩; refine ⟨_, rfl, ?_⟩))
   go_ret
   exact ⟨by first | rfl | (simp; done) | (simp [*]; done), by repeat (first | exact Drawn0.refl _ | apply Drawn0.step)⟩
 ·replace c5 := Bool.eq_false_iff.mpr c5
  subst c5
  rw [if_neg (show ¬ (false = true) by decide)] at H
  by_cases c7 : t128 = true
  ·subst c7
   rw [if_pos rfl] at H
   obtain rfl := Option.some.inj H
   go_enter Try.func75, Try.ntmps75
   go_wp2_with (first | ((with_reducible refine gC 95 rfl ?_); refine gL 8 Try.func95 #[.int .i64 a0] ?_; (with_reducible refine (cmp_isNaN_int.calls a0 false _ A3.out).mono ?_); rintro e w' ⟨rfl, ⟨nd, rfl⟩⟩; refine ⟨_, rfl, ?_⟩) | ((with_reducible refine gC 95 rfl ?_); refine gL 10 Try.func95 #[.int .i64 a1] ?_; (with_reducible refine (cmp_isNaN_int.calls a1 true _ A4.out).mono ?_); rintro e w' ⟨rfl, ⟨nd, rfl⟩⟩; refine ⟨_, rfl, ?_⟩))
   go_ret
   exact ⟨by first | rfl | (simp; done) | (simp [*]; done), by repeat (first | exact Drawn0.refl _ | apply Drawn0.step)⟩
  ·replace c7 := Bool.eq_false_iff.mpr c7
   subst c7
   rw [if_neg (show ¬ (false = true) by decide)] at H
   by_cases c8 : a0 < a1
   ·rw [if_pos c8] at H
    have c8b0 : decide (a0 < a1) = true := decide_eq_true c8
    clear c8
    obtain rfl := Option.some.inj H
    go_enter Try.func75, Try.ntmps75
    go_wp2_with (first | ((with_reducible refine gC 95 rfl ?_); refine gL 8 Try.func95 #[.int .i64 a0] ?_; (with_reducible refine (cmp_isNaN_int.calls a0 false _ A3.out).mono ?_); rintro e w' ⟨rfl, ⟨nd, rfl⟩⟩; refine ⟨_, rfl, ?_⟩) | ((with_reducible refine gC 95 rfl ?_); refine gL 10 Try.func95 #[.int .i64 a1] ?_; (with_reducible refine (cmp_isNaN_int.calls a1 false _ A4.out).mono ?_); rintro e w' ⟨rfl, ⟨nd, rfl⟩⟩; refine ⟨_, rfl, ?_⟩))
    go_ret
    exact ⟨by first | rfl | (simp; done) | (simp [*]; done), by repeat (first | exact Drawn0.refl _ | apply Drawn0.step)⟩
   ·rw [if_neg c8] at H
    have c8b0 : decide (a0 < a1) = false := decide_eq_false c8
    clear c8
    by_cases c9 : a0 > a1
    ·rw [if_pos c9] at H
     have c9b0 : decide (a1 < a0) = true := decide_eq_true c9
     clear c9
     obtain rfl := Option.some.inj H
     go_enter Try.func75, Try.ntmps75
     go_wp2_with (first | ((with_reducible refine gC 95 rfl ?_); refine gL 8 Try.func95 #[.int .i64 a0] ?_; (with_reducible refine (cmp_isNaN_int.calls a0 false _ A3.out).mono ?_); rintro e w' ⟨rfl, ⟨nd, rfl⟩⟩; refine ⟨_, rfl, ?_⟩) | ((with_reducible refine gC 95 rfl ?_); refine gL 10 Try.func95 #[.int .i64 a1] ?_; (with_reducible refine (cmp_isNaN_int.calls a1 false _ A4.out).mono ?_); rintro e w' ⟨rfl, ⟨nd, rfl⟩⟩; refine ⟨_, rfl, ?_⟩))
     go_ret
     exact ⟨by first | rfl | (simp; done) | (simp [*]; done), by repeat (first | exact Drawn0.refl _ | apply Drawn0.step)⟩
    ·rw [if_neg c9] at H
     have c9b0 : decide (a1 < a0) = false := decide_eq_false c9
     clear c9
     obtain rfl := Option.some.inj H
     go_enter Try.func75, Try.ntmps75
     go_wp2_with (first | ((with_reducible refine gC 95 rfl ?_); refine gL 8 Try.func95 #[.int .i64 a0] ?_; (with_reducible refine (cmp_isNaN_int.calls a0 false _ A3.out).mono ?_); rintro e w' ⟨rfl, ⟨nd, rfl⟩⟩; refine ⟨_, rfl, ?_⟩) | ((with_reducible refine gC 95 rfl ?_); refine gL 10 Try.func95 #[.int .i64 a1] ?_; (with_reducible refine (cmp_isNaN_int.calls a1 false _ A4.out).mono ?_); rintro e w' ⟨rfl, ⟨nd, rfl⟩⟩; refine ⟨_, rfl, ?_⟩))
     go_ret
     exact ⟨by first | rfl | (simp; done) | (simp [*]; done), by repeat (first | exact Drawn0.refl _ | apply Drawn0.step)⟩
def card_ratio_compare.f (a0_0 : Int) (a0_1 : Int) (a1_0 : Int) (a1_1 : Int) : Option (Int) := (cmp_Compare_int.f (wrap64 (a0_0 * a1_1)) (wrap64 (a1_0 * a0_1))).bind fun t131 => (some t131)
set_option maxHeartbeats 8000000 in
set_option maxRecDepth 100000 in
theorem card_ratio_compare.calls (a0_0 : Int) (a0_1 : Int) (a1_0 : Int) (a1_1 : Int) (r : Int) (w : World) (h : card_ratio_compare.f a0_0 a0_1 a1_0 a1_1 = some r) :
  Calls Try.prog 86 #[.agg #[.int .i64 a0_0, .int .i64 a0_1], .agg #[.int .i64 a1_0, .int .i64 a1_1]] w fun e w' => e = .returned (.int .i64 r) ∧ Below w.heap.size w w' := by
 have hu101 := Try.underlying101
 have HB := Aside0.mk (Below.refl w.heap.size w)
 have H : ((cmp_Compare_int.f (wrap64 (a0_0 * a1_1)) (wrap64 (a1_0 * a0_1))).bind fun t131 => (some t131)) = some r := h
 clear h
 replace H := zi H
 obtain ⟨t131, A30, H⟩ := H
 try dsimp only at H
 have A3 := Aside0.mk A30
 clear A30
 obtain rfl := Option.some.inj H
 go_enter Try.func86, Try.ntmps86
 go_wp2_with (first | ((with_reducible refine gD 2 rfl ?_); refine zx 2 #[.int .i64 a0_0, .int .i64 a0_1] 101 ?_; intro gb129 hg w4 hbox hb; have BK129 := Aside0.mk (hbox); have GE129 := zG w hg; replace HB := zd hb; clear hb hbox hg) | ((with_reducible refine gD 3 rfl ?_); refine zx 3 #[.int .i64 a1_0, .int .i64 a1_1] 101 ?_; intro gb130 hg w5 hbox hb; have BK130 := Aside0.mk (hbox); have GE130 := zG w hg; replace HB := zd hb; have NB129_130 := zN BK129 hg; have NB130_129 := zM BK129 hg; replace BK129 := zk BK129 hb; clear hb hbox hg; have hnb6 := NB129_130.out; have hnc6 := NB130_129.out; have hcz7_0 : w5.cell? ⟨gb129, 0, none⟩ = some (.int .i64 a0_0) := zy BK129 0; have hcz7_1 : w5.cell? ⟨gb129, 1, none⟩ = some (.int .i64 a0_1) := zy BK129 1; have hfz7_0 := blk_frozen BK129.out 0; have hfz7_1 := blk_frozen BK129.out 1; have hcz8_0 : w5.cell? ⟨gb130, 0, none⟩ = some (.int .i64 a1_0) := zy BK130 0; have hcz8_1 : w5.cell? ⟨gb130, 1, none⟩ = some (.int .i64 a1_1) := zy BK130 1; have hfz8_0 := blk_frozen BK130.out 0; have hfz8_1 := blk_frozen BK130.out 1) | ((with_reducible refine gC 75 rfl ?_); refine gL 15 Try.func75 #[.int .i64 (wrap64 (a0_0 * a1_1)), .int .i64 (wrap64 (a1_0 * a0_1))] ?_; (with_reducible refine (cmp_Compare_int.calls (wrap64 (a0_0 * a1_1)) (wrap64 (a1_0 * a0_1)) t131 _ A3.out).mono ?_); rintro e w' ⟨rfl, ⟨nd, rfl⟩⟩; refine ⟨_, rfl, ?_⟩))
 go_ret
 exact ⟨ze, zh⟩
def card_ratio_out.f (a0_0 : Int) (a0_1 : Int) : Option (Int × Int) := some (a0_0, a0_1)
set_option maxHeartbeats 8000000 in
set_option maxRecDepth 100000 in
theorem card_ratio_out.calls (a0_0 : Int) (a0_1 : Int) (r1 : Int) (r2 : Int) (w : World) (h : card_ratio_out.f a0_0 a0_1 = some (r1, r2)) :
  Calls Try.prog 55 #[.agg #[.int .i64 a0_0, .int .i64 a0_1]] w fun e w' => e = .returned (.agg #[.int .i64 r1, .int .i64 r2]) ∧ Below w.heap.size w w' := by
 have hu101 := Try.underlying101
 have hu29 := Try.underlying29
 have HB := Aside0.mk (Below.refl w.heap.size w)
 have H : (some (a0_0, a0_1)) = some (r1, r2) := h
 clear h
 simp only [Option.some.injEq, Prod.mk.injEq] at H
 obtain ⟨rfl, rfl⟩ := H
 go_enter Try.func55, Try.ntmps55
 go_wp2_with (first | ((with_reducible refine gD 1 rfl ?_); refine zx 1 #[.int .i64 a0_0, .int .i64 a0_1] 101 ?_; intro gb132 hg w2 hbox hb; have BK132 := Aside0.mk (hbox); have GE132 := zG w hg; replace HB := zd hb; clear hb hbox hg) | ((with_reducible refine gD 2 rfl ?_); refine zx 2 #[.int .i64 0, .int .i64 0] 29 ?_; intro gb133 hg w3 hbox hb; have BK133 := Aside0.mk (hbox); have GE133 := zG w hg; replace HB := zd hb; have NB132_133 := zN BK132 hg; have NB133_132 := zM BK132 hg; replace BK132 := zk BK132 hb; clear hb hbox hg; have hnb4 := NB132_133.out; have hnc4 := NB133_132.out; have hcz5_0 : w3.cell? ⟨gb132, 0, none⟩ = some (.int .i64 a0_0) := zy BK132 0; have hcz5_1 : w3.cell? ⟨gb132, 1, none⟩ = some (.int .i64 a0_1) := zy BK132 1; have hfz5_0 := blk_frozen BK132.out 0; have hfz5_1 := blk_frozen BK132.out 1; have hcz6_0 : w3.cell? ⟨gb133, 0, none⟩ = some (.int .i64 0) := zy BK133 0; have hcz6_1 : w3.cell? ⟨gb133, 1, none⟩ = some (.int .i64 0) := zy BK133 1; have hfz6_0 := blk_frozen BK133.out 0; have hfz6_1 := blk_frozen BK133.out 1))
 refine bodyPost_ret (results_cell_row rfl _ _ gb133 29 #[.int .i64 a0_0, .int .i64 a0_1] (0, 0) _ rfl (by refine zm ?_; refine blk_put (cs := #[.int .i64 a0_0, .int .i64 0]) ?_ 1 _ rfl; refine zm ?_; refine blk_put (cs := #[.int .i64 0, .int .i64 0]) ?_ 0 _ rfl; refine zm ?_; exact BK133.out) Try.underlying29 rfl (by kernel_rfl)) rfl ?_
 exact ⟨ze, zh⟩
def card_Point_course.f (a0_0 : Int) (a0_1 : Int) : Option (Int) := some (wrap64 (a0_0 + a0_1))
set_option maxHeartbeats 8000000 in
set_option maxRecDepth 100000 in
theorem card_Point_course.calls (a0_0 : Int) (a0_1 : Int) (r : Int) (w : World) (h : card_Point_course.f a0_0 a0_1 = some r) :
  Calls Try.prog 71 #[.agg #[.int .i64 a0_0, .int .i64 a0_1]] w fun e w' => e = .returned (.int .i64 r) ∧ Below w.heap.size w w' := by
 have hu55 := Try.underlying55
 have HB := Aside0.mk (Below.refl w.heap.size w)
 have H : (some (wrap64 (a0_0 + a0_1))) = some r := h
 clear h
 obtain rfl := Option.some.inj H
 go_enter Try.func71, Try.ntmps71
 go_wp2_with (first | ((with_reducible refine gD 1 rfl ?_); refine zx 1 #[.int .i64 a0_0, .int .i64 a0_1] 55 ?_; intro gb134 hg w2 hbox hb; have BK134 := Aside0.mk (hbox); have GE134 := zG w hg; replace HB := zd hb; clear hb hbox hg; have hcz3_0 : w2.cell? ⟨gb134, 0, none⟩ = some (.int .i64 a0_0) := zy BK134 0; have hcz3_1 : w2.cell? ⟨gb134, 1, none⟩ = some (.int .i64 a0_1) := zy BK134 1; have hfz3_0 := blk_frozen BK134.out 0; have hfz3_1 := blk_frozen BK134.out 1))
 go_ret
 exact ⟨ze, zh⟩
def agoniclaw05_numbers.l0 : Nat → List Int → List Int → Int → Option (Bool)
 | 0, _, _, _ => none
 | k + 1, x0, x1, x5 => if x5 < (x0.length : Int) then (if 0 ≤ x5 then (if x5 < (x1.length : Int) then (if (rd x0 x5) = (rd x1 x5) then (agoniclaw05_numbers.l0 k x0 x1 (wrap64 (x5 + 1))) else (some false)) else (none)) else (none)) else (some true)
def agoniclaw05_numbers.f (k : Nat) (l0 : List Int) (l1 : List Int) : Option (Bool) := if (l0.length : Int) = (l1.length : Int) then (agoniclaw05_numbers.l0 k l0 l1 0) else (some false)
set_option maxHeartbeats 8000000 in
set_option maxRecDepth 100000 in
theorem agoniclaw05_numbers.calls (k : Nat) (A0 : Option Addr) (c0 : Nat) (l0 : List Int) (A1 : Option Addr) (c1 : Nat) (l1 : List Int) (r : Bool) (w : World) (hr0 : Kd.C (Kd.int .i64) w A0 l0.length l0) (hc0 : l0.length ≤ c0) (hr1 : Kd.C (Kd.int .i64) w A1 l1.length l1) (hc1 : l1.length ≤ c1) (h : agoniclaw05_numbers.f k l0 l1 = some r) :
  Calls Try.prog 20 #[.slice A0 l0.length c0, .slice A1 l1.length c1] w fun e w' => e = .returned (.bool r) ∧ Drawn0 w w' := by
 have HR0 := Aside0.mk hr0
 have HC0 := Aside0.mk hc0
 clear hr0 hc0
 have HR1 := Aside0.mk hr1
 have HC1 := Aside0.mk hc1
 clear hr1 hc1
 have H : (if (l0.length : Int) = (l1.length : Int) then (agoniclaw05_numbers.l0 k l0 l1 0) else (some false)) = some r := h
 clear h
 by_cases c3 : (l0.length : Int) = (l1.length : Int)
 ·rw [if_pos c3] at H
  have c3b0 : ((l0.length : Int) == (l1.length : Int)) = true := beq_iff_eq.mpr c3
  have c3b1 : ((l0.length : Int) != (l1.length : Int)) = false := bne_eq_false_iff_eq.mpr c3
  have c3b2 : (l0.length == l1.length) = true := by first | simpa using c3 | (simp at c3 ⊢; omega)
  clear c3
  have H' := Aside0.mk H
  clear H
  go_enter Try.func20, Try.ntmps20
  go_wp2
  repeat (go_quiet (fail); try go_wp2)
  go_loopg [5] k (fun kq v5 w' => ∃ (x5_1 : Int), v5 = .int .i64 x5_1 ∧ Aside0 (agoniclaw05_numbers.l0 kq l0 l1 x5_1 = some r) ∧ Aside0 (kq ≤ k) ∧ Drawn0 w w')
  case atStart => exact ⟨(0), (by first | rfl | (simp; done) | (simp [*]; done)), H', ⟨Nat.le_refl _⟩, by repeat (first | exact Drawn0.refl _ | apply Drawn0.step)⟩
  case round =>
   clear H'
   try clear c1
   try clear c2
   try clear p2
   try clear c3
   try clear c3b0
   try clear c3b1
   try clear c3b2
   obtain ⟨x5_1, rfl, HA, HK1, ⟨m1, rfl⟩⟩ := hrel
   cases gk with
   | zero => exact absurd HA.out (by simp [agoniclaw05_numbers.l0])
   | succ k1 =>
    have H := HA.out
    clear HA
    simp only [agoniclaw05_numbers.l0] at H
    by_cases c4 : x5_1 < (l0.length : Int)
    ·rw [if_pos c4] at H
     have c4b0 : decide (x5_1 < (l0.length : Int)) = true := decide_eq_true c4
     clear c4
     by_cases c5 : 0 ≤ x5_1
     ·rw [if_pos c5] at H
      have c5b0 : decide (0 ≤ x5_1) = true := decide_eq_true c5
      clear c5
      by_cases c6 : x5_1 < (l1.length : Int)
      ·rw [if_pos c6] at H
       have c6b0 : decide (x5_1 < (l1.length : Int)) = true := decide_eq_true c6
       clear c6
       by_cases c7 : (rd l0 x5_1) = (rd l1 x5_1)
       ·rw [if_pos c7] at H
        have c7b0 : ((rd l0 x5_1) == (rd l1 x5_1)) = true := beq_iff_eq.mpr c7
        have c7b1 : ((rd l0 x5_1) != (rd l1 x5_1)) = false := bne_eq_false_iff_eq.mpr c7
        clear c7
        have H' := Aside0.mk H
        clear H
        have p135 : 0 ≤ (x5_1 : Int) := zp
        have q135 : x5_1 < (l0.length : Int) := zp
        obtain ⟨ad135, e135, hx135_0⟩ := Kd.at_int HR0.out x5_1 p135 q135
        cases e135
        replace p135 := eq_true p135
        replace q135 := eq_true q135
        have p136 : 0 ≤ (x5_1 : Int) := zp
        have q136 : x5_1 < (l1.length : Int) := zp
        obtain ⟨ad136, e136, hx136_0⟩ := Kd.at_int HR1.out x5_1 p136 q136
        cases e136
        replace p136 := eq_true p136
        replace q136 := eq_true q136
        go_wp2
        repeat (go_quiet (fail); try go_wp2)
        go_roundg k1
        case measure => have := HK1.out; omega
        case rel => exact ⟨(wrap64 (x5_1 + 1)), (by first | rfl | (simp; done) | (simp [*]; done)), H', ⟨by have := HK1.out; omega⟩, by repeat (first | exact Drawn0.refl _ | apply Drawn0.step)⟩
       ·rw [if_neg c7] at H
        have c7b0 : ((rd l0 x5_1) == (rd l1 x5_1)) = false := beq_eq_false_iff_ne.mpr c7
        have c7b1 : ((rd l0 x5_1) != (rd l1 x5_1)) = true := bne_iff_ne.mpr c7
        obtain rfl := Option.some.inj H
        have p135 : 0 ≤ (x5_1 : Int) := zp
        have q135 : x5_1 < (l0.length : Int) := zp
        obtain ⟨ad135, e135, hx135_0⟩ := Kd.at_int HR0.out x5_1 p135 q135
        cases e135
        replace p135 := eq_true p135
        replace q135 := eq_true q135
        have p136 : 0 ≤ (x5_1 : Int) := zp
        have q136 : x5_1 < (l1.length : Int) := zp
        obtain ⟨ad136, e136, hx136_0⟩ := Kd.at_int HR1.out x5_1 p136 q136
        cases e136
        replace p136 := eq_true p136
        replace q136 := eq_true q136
        go_wp2
        repeat (go_quiet (fail); try go_wp2)
        go_ret
        exact ⟨by first | rfl | (simp; done) | (simp [*]; done), by repeat (first | exact Drawn0.refl _ | apply Drawn0.step)⟩
      ·rw [if_neg c6] at H
       exact absurd H (by simp)
     ·rw [if_neg c5] at H
      exact absurd H (by simp)
    ·rw [if_neg c4] at H
     have c4b0 : decide (x5_1 < (l0.length : Int)) = false := decide_eq_false c4
     clear c4
     obtain rfl := Option.some.inj H
     go_wp2
     repeat (go_quiet (fail); try go_wp2)
     go_ret
     exact ⟨by first | rfl | (simp; done) | (simp [*]; done), by repeat (first | exact Drawn0.refl _ | apply Drawn0.step)⟩
 ·rw [if_neg c3] at H
  have c3b0 : ((l0.length : Int) == (l1.length : Int)) = false := beq_eq_false_iff_ne.mpr c3
  have c3b1 : ((l0.length : Int) != (l1.length : Int)) = true := bne_iff_ne.mpr c3
  have c3b2 : (l0.length == l1.length) = false := by first | simpa using c3 | (simp at c3 ⊢; omega)
  obtain rfl := Option.some.inj H
  go_enter Try.func20, Try.ntmps20
  go_wp2
  repeat (go_quiet (fail); try go_wp2)
  go_ret
  exact ⟨by first | rfl | (simp; done) | (simp [*]; done), by repeat (first | exact Drawn0.refl _ | apply Drawn0.step)⟩
def card_ratio_around.f (a0_0 : Int) (a0_1 : Int) : Option (Int × Int) := if (wrap64 (3600 * a0_1)) = 0 then (none) else (if (Int.tmod a0_0 (wrap64 (3600 * a0_1))) < 0 then (some (wrap64 ((Int.tmod a0_0 (wrap64 (3600 * a0_1))) + (wrap64 (3600 * a0_1))), a0_1)) else (some (Int.tmod a0_0 (wrap64 (3600 * a0_1)), a0_1)))
set_option maxHeartbeats 8000000 in
set_option maxRecDepth 100000 in
theorem card_ratio_around.calls (a0_0 : Int) (a0_1 : Int) (r1 : Int) (r2 : Int) (w : World) (h : card_ratio_around.f a0_0 a0_1 = some (r1, r2)) :
  Calls Try.prog 72 #[.agg #[.int .i64 a0_0, .int .i64 a0_1]] w fun e w' => e = .returned (.agg #[.int .i64 r1, .int .i64 r2]) ∧ Below w.heap.size w w' := by
 have hu101 := Try.underlying101
 have HB := Aside0.mk (Below.refl w.heap.size w)
 have H : (if (wrap64 (3600 * a0_1)) = 0 then (none) else (if (Int.tmod a0_0 (wrap64 (3600 * a0_1))) < 0 then (some (wrap64 ((Int.tmod a0_0 (wrap64 (3600 * a0_1))) + (wrap64 (3600 * a0_1))), a0_1)) else (some (Int.tmod a0_0 (wrap64 (3600 * a0_1)), a0_1)))) = some (r1, r2) := h
 clear h
 by_cases c2 : (wrap64 (3600 * a0_1)) = 0
 ·rw [if_pos c2] at H
  exact absurd H (by simp)
 ·rw [if_neg c2] at H
  have c2b0 : ((wrap64 (3600 * a0_1)) == 0) = false := beq_eq_false_iff_ne.mpr c2
  have c2b1 : ((wrap64 (3600 * a0_1)) != 0) = true := bne_iff_ne.mpr c2
  by_cases c3 : (Int.tmod a0_0 (wrap64 (3600 * a0_1))) < 0
  ·rw [if_pos c3] at H
   have c3b0 : decide ((Int.tmod a0_0 (wrap64 (3600 * a0_1))) < 0) = true := decide_eq_true c3
   clear c3
   simp only [Option.some.injEq, Prod.mk.injEq] at H
   obtain ⟨rfl, rfl⟩ := H
   go_enter Try.func72, Try.ntmps72
   go_wp2_with (first | ((with_reducible refine gD 1 rfl ?_); refine zx 1 #[.int .i64 a0_0, .int .i64 a0_1] 101 ?_; intro gb137 hg w4 hbox hb; have BK137 := Aside0.mk (hbox); have GE137 := zG w hg; replace HB := zd hb; clear hb hbox hg) | ((with_reducible refine gD 2 rfl ?_); refine zx 2 #[.int .i64 0, .int .i64 0] 101 ?_; intro gb138 hg w5 hbox hb; have BK138 := Aside0.mk (hbox); have GE138 := zG w hg; replace HB := zd hb; have NB137_138 := zN BK137 hg; have NB138_137 := zM BK137 hg; replace BK137 := zk BK137 hb; clear hb hbox hg; have hnb6 := NB137_138.out; have hnc6 := NB138_137.out; have hcz7_0 : w5.cell? ⟨gb137, 0, none⟩ = some (.int .i64 a0_0) := zy BK137 0; have hcz7_1 : w5.cell? ⟨gb137, 1, none⟩ = some (.int .i64 a0_1) := zy BK137 1; have hfz7_0 := blk_frozen BK137.out 0; have hfz7_1 := blk_frozen BK137.out 1; have hcz8_0 : w5.cell? ⟨gb138, 0, none⟩ = some (.int .i64 0) := zy BK138 0; have hcz8_1 : w5.cell? ⟨gb138, 1, none⟩ = some (.int .i64 0) := zy BK138 1; have hfz8_0 := blk_frozen BK138.out 0; have hfz8_1 := blk_frozen BK138.out 1))
   refine bodyPost_ret (results_cell_row rfl _ _ gb138 101 #[.int .i64 (wrap64 ((Int.tmod a0_0 (wrap64 (3600 * a0_1))) + (wrap64 (3600 * a0_1)))), .int .i64 a0_1] (0, 0) _ rfl (by refine zm ?_; refine blk_put (cs := #[.int .i64 (wrap64 ((Int.tmod a0_0 (wrap64 (3600 * a0_1))) + (wrap64 (3600 * a0_1)))), .int .i64 0]) ?_ 1 _ rfl; refine zm ?_; refine blk_put (cs := #[.int .i64 0, .int .i64 0]) ?_ 0 _ rfl; refine zm ?_; refine blk_far ?_ NB138_137.out _; refine zm ?_; exact BK138.out) Try.underlying101 rfl (by kernel_rfl)) rfl ?_
   exact ⟨ze, zh⟩
  ·rw [if_neg c3] at H
   have c3b0 : decide ((Int.tmod a0_0 (wrap64 (3600 * a0_1))) < 0) = false := decide_eq_false c3
   clear c3
   simp only [Option.some.injEq, Prod.mk.injEq] at H
   obtain ⟨rfl, rfl⟩ := H
   go_enter Try.func72, Try.ntmps72
   go_wp2_with (first | ((with_reducible refine gD 1 rfl ?_); refine zx 1 #[.int .i64 a0_0, .int .i64 a0_1] 101 ?_; intro gb137 hg w9 hbox hb; have BK137 := Aside0.mk (hbox); have GE137 := zG w hg; replace HB := zd hb; clear hb hbox hg) | ((with_reducible refine gD 2 rfl ?_); refine zx 2 #[.int .i64 0, .int .i64 0] 101 ?_; intro gb138 hg w10 hbox hb; have BK138 := Aside0.mk (hbox); have GE138 := zG w hg; replace HB := zd hb; have NB137_138 := zN BK137 hg; have NB138_137 := zM BK137 hg; replace BK137 := zk BK137 hb; clear hb hbox hg; have hnb11 := NB137_138.out; have hnc11 := NB138_137.out; have hcz12_0 : w10.cell? ⟨gb137, 0, none⟩ = some (.int .i64 a0_0) := zy BK137 0; have hcz12_1 : w10.cell? ⟨gb137, 1, none⟩ = some (.int .i64 a0_1) := zy BK137 1; have hfz12_0 := blk_frozen BK137.out 0; have hfz12_1 := blk_frozen BK137.out 1; have hcz13_0 : w10.cell? ⟨gb138, 0, none⟩ = some (.int .i64 0) := zy BK138 0; have hcz13_1 : w10.cell? ⟨gb138, 1, none⟩ = some (.int .i64 0) := zy BK138 1; have hfz13_0 := blk_frozen BK138.out 0; have hfz13_1 := blk_frozen BK138.out 1))
   refine bodyPost_ret (results_cell_row rfl _ _ gb138 101 #[.int .i64 (Int.tmod a0_0 (wrap64 (3600 * a0_1))), .int .i64 a0_1] (0, 0) _ rfl (by refine zm ?_; refine blk_put (cs := #[.int .i64 (Int.tmod a0_0 (wrap64 (3600 * a0_1))), .int .i64 0]) ?_ 1 _ rfl; refine zm ?_; refine blk_put (cs := #[.int .i64 0, .int .i64 0]) ?_ 0 _ rfl; refine zm ?_; refine blk_far ?_ NB138_137.out _; refine zm ?_; exact BK138.out) Try.underlying101 rfl (by kernel_rfl)) rfl ?_
   exact ⟨ze, zh⟩
def agoniclaw05_ratios.l0 : Nat → List (S29) → List (S29) → Int → Option (Bool)
 | 0, _, _, _ => none
 | k + 1, x0, x1, x5 => if x5 < (x0.length : Int) then (if 0 ≤ x5 then (if x5 < (x1.length : Int) then (if (!(((rd_T29 x0 x5).f0) == ((rd_T29 x1 x5).f0)) || (!(((rd_T29 x0 x5).f1) == ((rd_T29 x1 x5).f1)))) = true then (some false) else (agoniclaw05_ratios.l0 k x0 x1 (wrap64 (x5 + 1)))) else (none)) else (none)) else (some true)
def agoniclaw05_ratios.f (k : Nat) (l0 : List (S29)) (l1 : List (S29)) : Option (Bool) := if (l0.length : Int) = (l1.length : Int) then (agoniclaw05_ratios.l0 k l0 l1 0) else (some false)
set_option maxHeartbeats 8000000 in
set_option maxRecDepth 100000 in
theorem agoniclaw05_ratios.calls (k : Nat) (A0 : Option Addr) (c0 : Nat) (l0 : List (S29)) (A1 : Option Addr) (c1 : Nat) (l1 : List (S29)) (r : Bool) (w : World) (hr0 : Kd.C k29 w A0 l0.length l0) (hc0 : l0.length ≤ c0) (hr1 : Kd.C k29 w A1 l1.length l1) (hc1 : l1.length ≤ c1) (h : agoniclaw05_ratios.f k l0 l1 = some r) :
  Calls Try.prog 27 #[.slice A0 l0.length c0, .slice A1 l1.length c1] w fun e w' => e = .returned (.bool r) ∧ Drawn0 w w' := by
 have hu29 := Try.underlying29
 have HR0 := Aside0.mk hr0
 have HC0 := Aside0.mk hc0
 clear hr0 hc0
 have HR1 := Aside0.mk hr1
 have HC1 := Aside0.mk hc1
 clear hr1 hc1
 have H : (if (l0.length : Int) = (l1.length : Int) then (agoniclaw05_ratios.l0 k l0 l1 0) else (some false)) = some r := h
 clear h
 by_cases c3 : (l0.length : Int) = (l1.length : Int)
 ·rw [if_pos c3] at H
  have c3b0 : ((l0.length : Int) == (l1.length : Int)) = true := beq_iff_eq.mpr c3
  have c3b1 : ((l0.length : Int) != (l1.length : Int)) = false := bne_eq_false_iff_eq.mpr c3
  have c3b2 : (l0.length == l1.length) = true := by first | simpa using c3 | (simp at c3 ⊢; omega)
  clear c3
  have H' := Aside0.mk H
  clear H
  go_enter Try.func27, Try.ntmps27
  go_wp2
  repeat (go_quiet (fail); try go_wp2)
  go_loopg [5] k (fun kq v5 w' => ∃ (x5_1 : Int), v5 = .int .i64 x5_1 ∧ Aside0 (agoniclaw05_ratios.l0 kq l0 l1 x5_1 = some r) ∧ Aside0 (kq ≤ k) ∧ Drawn0 w w')
  case atStart => exact ⟨(0), (by first | rfl | (simp; done) | (simp [*]; done)), H', ⟨Nat.le_refl _⟩, by repeat (first | exact Drawn0.refl _ | apply Drawn0.step)⟩
  case round =>
   clear H'
   try clear c1
   try clear c2
   try clear p2
   try clear c3
   try clear c3b0
   try clear c3b1
   try clear c3b2
   obtain ⟨x5_1, rfl, HA, HK1, ⟨m1, rfl⟩⟩ := hrel
   cases gk with
   | zero => exact absurd HA.out (by simp [agoniclaw05_ratios.l0])
   | succ k1 =>
    have H := HA.out
    clear HA
    simp only [agoniclaw05_ratios.l0] at H
    by_cases c4 : x5_1 < (l0.length : Int)
    ·rw [if_pos c4] at H
     have c4b0 : decide (x5_1 < (l0.length : Int)) = true := decide_eq_true c4
     clear c4
     by_cases c5 : 0 ≤ x5_1
     ·rw [if_pos c5] at H
      have c5b0 : decide (0 ≤ x5_1) = true := decide_eq_true c5
      clear c5
      by_cases c6 : x5_1 < (l1.length : Int)
      ·rw [if_pos c6] at H
       have c6b0 : decide (x5_1 < (l1.length : Int)) = true := decide_eq_true c6
       clear c6
       by_cases c7 : (!(((rd_T29 l0 x5_1).f0) == ((rd_T29 l1 x5_1).f0)) || (!(((rd_T29 l0 x5_1).f1) == ((rd_T29 l1 x5_1).f1)))) = true
       ·rw [if_pos c7] at H
        have c7b0 : (!(((rd_T29 l0 x5_1).f0) == ((rd_T29 l1 x5_1).f0)) || (!(((rd_T29 l0 x5_1).f1) == ((rd_T29 l1 x5_1).f1)))) = true := c7
        clear c7
        obtain rfl := Option.some.inj H
        have p139 : 0 ≤ (x5_1 : Int) := zp
        have q139 : x5_1 < (l0.length : Int) := zp
        obtain ⟨ad139, e139, hx139_0, hx139_1⟩ := at_T29 HR0.out x5_1 p139 q139
        cases e139
        replace p139 := eq_true p139
        replace q139 := eq_true q139
        have p140 : 0 ≤ (x5_1 : Int) := zp
        have q140 : x5_1 < (l1.length : Int) := zp
        obtain ⟨ad140, e140, hx140_0, hx140_1⟩ := at_T29 HR1.out x5_1 p140 q140
        cases e140
        replace p140 := eq_true p140
        replace q140 := eq_true q140
        go_wp2
        repeat (go_quiet (fail); try go_wp2)
        go_ret
        exact ⟨by first | rfl | (simp; done) | (simp [*]; done), by repeat (first | exact Drawn0.refl _ | apply Drawn0.step)⟩
       ·rw [if_neg c7] at H
        have c7b0 : (!(((rd_T29 l0 x5_1).f0) == ((rd_T29 l1 x5_1).f0)) || (!(((rd_T29 l0 x5_1).f1) == ((rd_T29 l1 x5_1).f1)))) = false := by simpa using c7
        clear c7
        have H' := Aside0.mk H
        clear H
        have p139 : 0 ≤ (x5_1 : Int) := zp
        have q139 : x5_1 < (l0.length : Int) := zp
        obtain ⟨ad139, e139, hx139_0, hx139_1⟩ := at_T29 HR0.out x5_1 p139 q139
        cases e139
        replace p139 := eq_true p139
        replace q139 := eq_true q139
        have p140 : 0 ≤ (x5_1 : Int) := zp
        have q140 : x5_1 < (l1.length : Int) := zp
        obtain ⟨ad140, e140, hx140_0, hx140_1⟩ := at_T29 HR1.out x5_1 p140 q140
        cases e140
        replace p140 := eq_true p140
        replace q140 := eq_true q140
        go_wp2
        repeat (go_quiet (fail); try go_wp2)
        go_roundg k1
        case measure => have := HK1.out; omega
        case rel => exact ⟨(wrap64 (x5_1 + 1)), (by first | rfl | (simp; done) | (simp [*]; done)), H', ⟨by have := HK1.out; omega⟩, by repeat (first | exact Drawn0.refl _ | apply Drawn0.step)⟩
      ·rw [if_neg c6] at H
       exact absurd H (by simp)
     ·rw [if_neg c5] at H
      exact absurd H (by simp)
    ·rw [if_neg c4] at H
     have c4b0 : decide (x5_1 < (l0.length : Int)) = false := decide_eq_false c4
     clear c4
     obtain rfl := Option.some.inj H
     go_wp2
     repeat (go_quiet (fail); try go_wp2)
     go_ret
     exact ⟨by first | rfl | (simp; done) | (simp [*]; done), by repeat (first | exact Drawn0.refl _ | apply Drawn0.step)⟩
 ·rw [if_neg c3] at H
  have c3b0 : ((l0.length : Int) == (l1.length : Int)) = false := beq_eq_false_iff_ne.mpr c3
  have c3b1 : ((l0.length : Int) != (l1.length : Int)) = true := bne_iff_ne.mpr c3
  have c3b2 : (l0.length == l1.length) = false := by first | simpa using c3 | (simp at c3 ⊢; omega)
  obtain rfl := Option.some.inj H
  go_enter Try.func27, Try.ntmps27
  go_wp2
  repeat (go_quiet (fail); try go_wp2)
  go_ret
  exact ⟨by first | rfl | (simp; done) | (simp [*]; done), by repeat (first | exact Drawn0.refl _ | apply Drawn0.step)⟩
end Go.Proofs.Ytccjefoejjnccaa.C
