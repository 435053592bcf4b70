-- Written by a program of this session (wip/tools/myprint.py, over the kit's print).
import Derived.Test.YtccjefoejjnccaaH5
import Derived.Test.YtccjefoejjnccaaZ
namespace Go.Proofs.Ytccjefoejjnccaa.C
open Go.Proofs.Ytccjefoejjnccaa.H Go.Proofs.YtccjefoejjnccaaH Go.RowKit Go.Proofs.YtccjefoejjnccaaW.PrintWords Go.Proofs.YtccjefoejjnccaaW.PrintLast Go.Proofs.YtccjefoejjnccaaW.PrintMore
attribute [local go_sem] max2_int min2_int max_two min_two max_three min_three max_four min_four   -- for this text's walks alone
set_option linter.unusedVariables false
set_option linter.unusedSimpArgs false
theorem box2_far {W : World} {b c : Nat} {t : TypeId} {u u' v : Value} {o : Nat} (hne : b ≠ c) (h : Box2 W c t u u') : Box2 (W.setCell ⟨b, o, none⟩ v) c t u u' := (Below.heap_setCell W ⟨b, o, none⟩ v c (fun e => hne e.symm)).trans h
def endsT0 : Bool × List (List Nat × List Nat) := (true, [([], []), ([], []), ([0, 0], [0]), ([1, 2, 0, 1, 2], [1])])
def endsT0B : List Nat := [0, 0, 1, 7]
def endsT1 : Bool × List (List Nat × List Nat) := (true, [([], []), ([], []), ([0, 0], [0]), ([1, 2, 0, 1, 2], [1])])
def endsT1B : List Nat := [0, 0, 1, 7]
def agoniclaw05_ends.f (l0 : List (S55)) (a1 : Int) : Option (Int × Int × Int × Int) := if 0 ≤ a1 then (if a1 < (l0.length : Int) then (if (l0.length : Int) = 0 then (none) else (if 0 ≤ (Int.tmod (wrap64 (a1 + 1)) (l0.length : Int)) then (if (Int.tmod (wrap64 (a1 + 1)) (l0.length : Int)) < (l0.length : Int) then (if (wrap64 (a1 + 1)) = (l0.length : Int) then (some ((rd_T55 l0 a1).f0, (rd_T55 l0 a1).f1, wrap64 (((rd_T55 l0 (Int.tmod (wrap64 (a1 + 1)) (l0.length : Int))).f0) + 3600), (rd_T55 l0 (Int.tmod (wrap64 (a1 + 1)) (l0.length : Int))).f1)) else (some ((rd_T55 l0 a1).f0, (rd_T55 l0 a1).f1, (rd_T55 l0 (Int.tmod (wrap64 (a1 + 1)) (l0.length : Int))).f0, (rd_T55 l0 (Int.tmod (wrap64 (a1 + 1)) (l0.length : Int))).f1))) else (none)) else (none))) else (none)) else (none)
def agoniclaw05_ends.T1 : Bool × List (List Nat × List Nat) := (true, [([], []), ([], []), ([0, 1], [0, 1]), ([2], [2]), ([], []), ([], []), ([5], [5]), ([], []), ([7], [7]), ([6, 8], [6, 8]), ([4, 9], [4, 9]), ([10], [10]), ([3, 0, 1, 2, 3], [3]), ([11, 12, 0, 1, 2, 3, 4, 5, 6, 7, 8, 9, 10, 11, 12], [11])])
def agoniclaw05_ends.B1 : List Nat := [0, 0, 3, 7, 0, 0, 32, 0, 128, 480, 1008, 2032, 15, 8191]
theorem agoniclaw05_ends.tab1 : rtab .any (opsOf Try.f38 1) = agoniclaw05_ends.T1 := by kernel_rfl
theorem agoniclaw05_ends.bits1 : waitsOk agoniclaw05_ends.T1.2 agoniclaw05_ends.B1 = true := by kernel_rfl
set_option maxHeartbeats 8000000 in
set_option maxRecDepth 100000 in
theorem agoniclaw05_ends.calls (A0 : Option Addr) (c0 : Nat) (l0 : List (S55)) (a1 : Int) (r1 : Int) (r2 : Int) (r3 : Int) (r4 : Int) (w : World) (hr0 : Kd.C k55 w A0 l0.length l0) (hc0 : l0.length ≤ c0) (h : agoniclaw05_ends.f l0 a1 = some (r1, r2, r3, r4)) :
  Calls Try.prog 38 #[.slice A0 l0.length c0, .int .i64 a1] w fun e w' => e = .returned (.tuple #[.agg #[.int .i64 r1, .int .i64 r2], .agg #[.int .i64 r3, .int .i64 r4]]) ∧ Below w.heap.size w w' := by
 have hu55 := Try.underlying55
 have HR0 := Aside0.mk hr0
 have HC0 := Aside0.mk hc0
 clear hr0 hc0
 have HB := Aside0.mk (Below.refl w.heap.size w)
 have H : (if 0 ≤ a1 then (if a1 < (l0.length : Int) then (if (l0.length : Int) = 0 then (none) else (if 0 ≤ (Int.tmod (wrap64 (a1 + 1)) (l0.length : Int)) then (if (Int.tmod (wrap64 (a1 + 1)) (l0.length : Int)) < (l0.length : Int) then (if (wrap64 (a1 + 1)) = (l0.length : Int) then (some ((rd_T55 l0 a1).f0, (rd_T55 l0 a1).f1, wrap64 (((rd_T55 l0 (Int.tmod (wrap64 (a1 + 1)) (l0.length : Int))).f0) + 3600), (rd_T55 l0 (Int.tmod (wrap64 (a1 + 1)) (l0.length : Int))).f1)) else (some ((rd_T55 l0 a1).f0, (rd_T55 l0 a1).f1, (rd_T55 l0 (Int.tmod (wrap64 (a1 + 1)) (l0.length : Int))).f0, (rd_T55 l0 (Int.tmod (wrap64 (a1 + 1)) (l0.length : Int))).f1))) else (none)) else (none))) else (none)) else (none)) = some (r1, r2, r3, r4) := h
 clear h
 by_cases c3 : 0 ≤ a1
 ·rw [if_pos c3] at H
  have c3b0 : decide (0 ≤ a1) = true := decide_eq_true c3
  clear c3
  by_cases c4 : a1 < (l0.length : Int)
  ·rw [if_pos c4] at H
   have c4b0 : decide (a1 < (l0.length : Int)) = true := decide_eq_true c4
   clear c4
   by_cases c5 : (l0.length : Int) = 0
   ·rw [if_pos c5] at H
    exact absurd H (by simp)
   ·rw [if_neg c5] at H
    have c5b0 : ((l0.length : Int) == 0) = false := beq_eq_false_iff_ne.mpr c5
    have c5b1 : ((l0.length : Int) != 0) = true := bne_iff_ne.mpr c5
    have c5b2 : ¬ (l0 = []) := fun h_ => c5 (by rw [h_]; rfl)
    obtain ⟨ji6, hji6⟩ : ∃ j_ : Int, (Int.tmod (wrap64 (a1 + 1)) (l0.length : Int)) = j_ := ⟨_, rfl⟩
    replace H : (if 0 ≤ (ji6) then (if (ji6) < (l0.length : Int) then (if (wrap64 (a1 + 1)) = (l0.length : Int) then (some ((rd_T55 l0 a1).f0, (rd_T55 l0 a1).f1, wrap64 (((rd_T55 l0 (ji6)).f0) + 3600), (rd_T55 l0 (ji6)).f1)) else (some ((rd_T55 l0 a1).f0, (rd_T55 l0 a1).f1, (rd_T55 l0 (ji6)).f0, (rd_T55 l0 (ji6)).f1))) else (none)) else (none)) = some (r1, r2, r3, r4) := by first | (rw [hji6] at H; exact H) | (simp only [hji6] at H ⊢; exact H)
    by_cases c7 : 0 ≤ (ji6)
    ·rw [if_pos c7] at H
     have c7b0 : decide (0 ≤ (ji6)) = true := decide_eq_true c7
     clear c7
     by_cases c8 : (ji6) < (l0.length : Int)
     ·rw [if_pos c8] at H
      have c8b0 : decide ((ji6) < (l0.length : Int)) = true := decide_eq_true c8
      clear c8
      by_cases c9 : (wrap64 (a1 + 1)) = (l0.length : Int)
      ·rw [if_pos c9] at H
       have c9b0 : ((wrap64 (a1 + 1)) == (l0.length : Int)) = true := beq_iff_eq.mpr c9
       have c9b1 : ((wrap64 (a1 + 1)) != (l0.length : Int)) = false := bne_eq_false_iff_eq.mpr c9
       clear c9
       simp only [Option.some.injEq, Prod.mk.injEq] at H
       obtain ⟨rfl, rfl, rfl, rfl⟩ := H
       go_enter Try.func38, Try.ntmps38
       try go_wp2_with (first | ((with_reducible refine gD 4 rfl ?_); refine zx 4 #[.int .i64 0, .int .i64 0] 55 ?_; intro gb101 hg w10 hbox hb; have BK101 := Aside0.mk (hbox); have GW101 := zG w hg; have GE101 := zG w hg; replace HB := zd hb; clear hb hbox hg) | ((with_reducible refine gD 5 rfl ?_); refine zx 5 #[.int .i64 0, .int .i64 0] 55 ?_; intro gb102 hg w11 hbox hb; have BK102 := Aside0.mk (hbox); have GW102 := zG w hg; have GE102 := zG w hg; replace HB := zd hb; have NB101_102 := zN BK101 hg; have NB102_101 := zM BK101 hg; replace BK101 := zk BK101 hb; clear hb hbox hg))
       replace BK101 := Aside0.mk (blk_drew BK101.out)
       replace BK102 := Aside0.mk (blk_drew BK102.out)
       replace HB := Aside0.mk (below_drew1 HB.out)
       have p103 : 0 ≤ (a1 : Int) := zp
       have q103 : a1 < (l0.length : Int) := zp
       obtain ⟨ad103, e103, hx103_0, hx103_1⟩ := at_T55 HR0.out a1 p103 q103
       have hw103_1 := hx103_1
       have hw103_0 := hx103_0
       cases e103
       replace hx103_0 := (HB.out.cell (World.block_lt_of_cell? w _ hx103_0)).trans hx103_0
       replace hx103_1 := (HB.out.cell (World.block_lt_of_cell? w _ hx103_1)).trans hx103_1
       replace p103 := eq_true p103
       replace q103 := eq_true q103
       have p104 : 0 ≤ ((ji6) : Int) := zp
       have q104 : (ji6) < (l0.length : Int) := zp
       obtain ⟨ad104, e104, hx104_0, hx104_1⟩ := at_T55 HR0.out (ji6) p104 q104
       have hw104_1 := hx104_1
       have hw104_0 := hx104_0
       obtain rfl : ad103 = ad104 := (by injection e104)
       replace hx104_0 := (HB.out.cell (World.block_lt_of_cell? w _ hx104_0)).trans hx104_0
       replace hx104_1 := (HB.out.cell (World.block_lt_of_cell? w _ hx104_1)).trans hx104_1
       replace p104 := eq_true p104
       replace q104 := eq_true q104
       refine start_ (n := 14) (S := fun w' => w'.cell? (ad103.add ((a1).toNat * 2)) = some (.int .i64 ((rd_T55 l0 a1).f0)) ∧ w'.cell? ⟨(ad103.add ((a1).toNat * 2)).block, (ad103.add ((a1).toNat * 2)).off + 1, none⟩ = some (.int .i64 ((rd_T55 l0 a1).f1)) ∧ w'.cell? (ad103.add (((ji6)).toNat * 2)) = some (.int .i64 ((rd_T55 l0 (ji6)).f0)) ∧ w'.cell? ⟨(ad103.add (((ji6)).toNat * 2)).block, (ad103.add (((ji6)).toNat * 2)).off + 1, none⟩ = some (.int .i64 ((rd_T55 l0 (ji6)).f1))) (ds := []) #[false, false, false, false, false, false, false, false, false, false, false, false, false, false] (by kernel_rfl) rfl rfl ⟨((HB.out.cell (World.block_lt_of_cell? w _ hw103_0)).trans hw103_0), ((HB.out.cell (World.block_lt_of_cell? w _ hw103_1)).trans hw103_1), ((HB.out.cell (World.block_lt_of_cell? w _ hw104_0)).trans hw104_0), ((HB.out.cell (World.block_lt_of_cell? w _ hw104_1)).trans hw104_1)⟩ (fun hHeld => ?_); refine with_tabW agoniclaw05_ends.tab1 agoniclaw05_ends.bits1 (fun HT_ HW_ => ?_)
       generalize w11.drew = w12 at BK101 BK102 HB hx103_0 hx103_1 hx104_0 hx104_1 hHeld ⊢
       refine pq HT_ 0 6 14 1 ?_
       refine pq HT_ 1 7 14 3 ?_
       refine pq HT_ 2 8 14 7 ?_
       refine pq HT_ 4 10 14 23 ?_
       refine pq HT_ 5 11 14 55 ?_
       refine pq HT_ 6 12 14 119 ?_
       refine pq HT_ 7 13 14 247 ?_
       refine pq HT_ 8 14 14 503 ?_
       refine pq HT_ 9 15 14 1015 ?_
       refine pq HT_ 10 16 14 2039 ?_
       refine take_ (i := 3) (N := some 9) (v := ?_) (a' := ?_) #[true, true, true, true, true, true, true, true, true, true, true, false, false, false] rfl rfl (take_ofW HT_.out HW_.out (by kernel_rfl)) (fun _ _ _ h => h) (Or.inl ⟨by rfl, ?_⟩) hHeld ?_ ?_
       rotate_left
       ·rintro w' ⟨s0, s1, s2, s3⟩
        go_simp
        with_reducible rfl
       rotate_left
       ·simp only [Act.put, List.setIfInBounds_toArray, List.set_cons_zero, List.set_cons_succ, i64_w, i32_w]
        rfl
       refine take_ (i := 11) (N := some 17) (v := ?_) (a' := ?_) #[true, true, true, true, true, true, true, true, true, true, true, true, false, false] rfl rfl (take_ofW HT_.out HW_.out (by kernel_rfl)) (fun _ _ _ h => h) (Or.inl ⟨by rfl, ?_⟩) hHeld ?_ ?_
       rotate_left
       ·rintro w' ⟨s0, s1, s2, s3⟩
        go_simp
        with_reducible rfl
       rotate_left
       ·simp only [Act.put, List.setIfInBounds_toArray, List.set_cons_zero, List.set_cons_succ, i64_w, i32_w]
        rfl
       refine one_ (i := 12) (N := none) #[true, true, true, true, true, true, true, true, true, true, true, true, true, false] rfl rfl (one_of HT_.out (by kernel_rfl)) (by decide) (fun K hK => ?_)
       have hs13 : w12.cell? ⟨gb101, 0, none⟩ = some (.int .i64 0) := zy BK101 0
       have hfs13 := blk_frozen BK101.out 0
       have hns13_1 := NB102_101.out
       have hms13_1 := NB101_102.out
       have hs14 : w12.cell? ⟨gb101, 1, none⟩ = some (.int .i64 0) := zy BK101 1
       have hfs14 := blk_frozen BK101.out 1
       have hns14_1 := NB102_101.out
       have hms14_1 := NB101_102.out
       refine skip_ (w1 := ?_) (by rfl) rfl ?_ ?_
       rotate_left
       ·go_simp
        rfl
       refine hK.out _ _ ⟨((cell_far (p := ⟨gb101, _, none⟩) (by first | exact Nat.ne_of_lt (Nat.lt_of_lt_of_le (zv hw103_0) GW101.out) | (rw [add_block]; exact Nat.ne_of_lt (Nat.lt_of_lt_of_le (zv hw103_0) GW101.out)) | (show (Addr.add _ _).block ≠ _; rw [add_block]; exact Nat.ne_of_lt (Nat.lt_of_lt_of_le (zv hw103_0) GW101.out)) | (dsimp only; exact Nat.ne_of_lt (Nat.lt_of_lt_of_le (zv hw103_0) GW101.out))) _).trans (((cell_far (p := ⟨gb101, _, none⟩) (by first | exact Nat.ne_of_lt (Nat.lt_of_lt_of_le (zv hw103_0) GW101.out) | (rw [add_block]; exact Nat.ne_of_lt (Nat.lt_of_lt_of_le (zv hw103_0) GW101.out)) | (show (Addr.add _ _).block ≠ _; rw [add_block]; exact Nat.ne_of_lt (Nat.lt_of_lt_of_le (zv hw103_0) GW101.out)) | (dsimp only; exact Nat.ne_of_lt (Nat.lt_of_lt_of_le (zv hw103_0) GW101.out))) _).trans (hHeld.1)))), ((cell_far (p := ⟨gb101, _, none⟩) (by first | exact Nat.ne_of_lt (Nat.lt_of_lt_of_le (zv hw103_1) GW101.out) | (rw [add_block]; exact Nat.ne_of_lt (Nat.lt_of_lt_of_le (zv hw103_1) GW101.out)) | (show (Addr.add _ _).block ≠ _; rw [add_block]; exact Nat.ne_of_lt (Nat.lt_of_lt_of_le (zv hw103_1) GW101.out)) | (dsimp only; exact Nat.ne_of_lt (Nat.lt_of_lt_of_le (zv hw103_1) GW101.out))) _).trans (((cell_far (p := ⟨gb101, _, none⟩) (by first | exact Nat.ne_of_lt (Nat.lt_of_lt_of_le (zv hw103_1) GW101.out) | (rw [add_block]; exact Nat.ne_of_lt (Nat.lt_of_lt_of_le (zv hw103_1) GW101.out)) | (show (Addr.add _ _).block ≠ _; rw [add_block]; exact Nat.ne_of_lt (Nat.lt_of_lt_of_le (zv hw103_1) GW101.out)) | (dsimp only; exact Nat.ne_of_lt (Nat.lt_of_lt_of_le (zv hw103_1) GW101.out))) _).trans (hHeld.2.1)))), ((cell_far (p := ⟨gb101, _, none⟩) (by first | exact Nat.ne_of_lt (Nat.lt_of_lt_of_le (zv hw104_0) GW101.out) | (rw [add_block]; exact Nat.ne_of_lt (Nat.lt_of_lt_of_le (zv hw104_0) GW101.out)) | (show (Addr.add _ _).block ≠ _; rw [add_block]; exact Nat.ne_of_lt (Nat.lt_of_lt_of_le (zv hw104_0) GW101.out)) | (dsimp only; exact Nat.ne_of_lt (Nat.lt_of_lt_of_le (zv hw104_0) GW101.out))) _).trans (((cell_far (p := ⟨gb101, _, none⟩) (by first | exact Nat.ne_of_lt (Nat.lt_of_lt_of_le (zv hw104_0) GW101.out) | (rw [add_block]; exact Nat.ne_of_lt (Nat.lt_of_lt_of_le (zv hw104_0) GW101.out)) | (show (Addr.add _ _).block ≠ _; rw [add_block]; exact Nat.ne_of_lt (Nat.lt_of_lt_of_le (zv hw104_0) GW101.out)) | (dsimp only; exact Nat.ne_of_lt (Nat.lt_of_lt_of_le (zv hw104_0) GW101.out))) _).trans (hHeld.2.2.1)))), ((cell_far (p := ⟨gb101, _, none⟩) (by first | exact Nat.ne_of_lt (Nat.lt_of_lt_of_le (zv hw104_1) GW101.out) | (rw [add_block]; exact Nat.ne_of_lt (Nat.lt_of_lt_of_le (zv hw104_1) GW101.out)) | (show (Addr.add _ _).block ≠ _; rw [add_block]; exact Nat.ne_of_lt (Nat.lt_of_lt_of_le (zv hw104_1) GW101.out)) | (dsimp only; exact Nat.ne_of_lt (Nat.lt_of_lt_of_le (zv hw104_1) GW101.out))) _).trans (((cell_far (p := ⟨gb101, _, none⟩) (by first | exact Nat.ne_of_lt (Nat.lt_of_lt_of_le (zv hw104_1) GW101.out) | (rw [add_block]; exact Nat.ne_of_lt (Nat.lt_of_lt_of_le (zv hw104_1) GW101.out)) | (show (Addr.add _ _).block ≠ _; rw [add_block]; exact Nat.ne_of_lt (Nat.lt_of_lt_of_le (zv hw104_1) GW101.out)) | (dsimp only; exact Nat.ne_of_lt (Nat.lt_of_lt_of_le (zv hw104_1) GW101.out))) _).trans (hHeld.2.2.2))))⟩ (fun hHeld => ?_)
       clear hK K
       refine one_ (i := 13) (N := none) #[true, true, true, true, true, true, true, true, true, true, true, true, true, true] rfl rfl (one_of HT_.out (by kernel_rfl)) (by decide) (fun K hK => ?_)
       have hs15 : w12.cell? ⟨gb102, 0, none⟩ = some (.int .i64 0) := zy BK102 0
       have hfs15 := blk_frozen BK102.out 0
       have hns15_0 := NB101_102.out
       have hms15_0 := NB102_101.out
       have hs16 : w12.cell? ⟨gb102, 1, none⟩ = some (.int .i64 0) := zy BK102 1
       have hfs16 := blk_frozen BK102.out 1
       have hns16_0 := NB101_102.out
       have hms16_0 := NB102_101.out
       refine skip_ (w1 := ?_) (by rfl) rfl ?_ ?_
       rotate_left
       ·go_simp
        rfl
       refine hK.out _ _ ⟨((cell_far (p := ⟨gb102, _, none⟩) (by first | exact Nat.ne_of_lt (Nat.lt_of_lt_of_le (zv hw103_0) GW102.out) | (rw [add_block]; exact Nat.ne_of_lt (Nat.lt_of_lt_of_le (zv hw103_0) GW102.out)) | (show (Addr.add _ _).block ≠ _; rw [add_block]; exact Nat.ne_of_lt (Nat.lt_of_lt_of_le (zv hw103_0) GW102.out)) | (dsimp only; exact Nat.ne_of_lt (Nat.lt_of_lt_of_le (zv hw103_0) GW102.out))) _).trans (((cell_far (p := ⟨gb102, _, none⟩) (by first | exact Nat.ne_of_lt (Nat.lt_of_lt_of_le (zv hw103_0) GW102.out) | (rw [add_block]; exact Nat.ne_of_lt (Nat.lt_of_lt_of_le (zv hw103_0) GW102.out)) | (show (Addr.add _ _).block ≠ _; rw [add_block]; exact Nat.ne_of_lt (Nat.lt_of_lt_of_le (zv hw103_0) GW102.out)) | (dsimp only; exact Nat.ne_of_lt (Nat.lt_of_lt_of_le (zv hw103_0) GW102.out))) _).trans (hHeld.1)))), ((cell_far (p := ⟨gb102, _, none⟩) (by first | exact Nat.ne_of_lt (Nat.lt_of_lt_of_le (zv hw103_1) GW102.out) | (rw [add_block]; exact Nat.ne_of_lt (Nat.lt_of_lt_of_le (zv hw103_1) GW102.out)) | (show (Addr.add _ _).block ≠ _; rw [add_block]; exact Nat.ne_of_lt (Nat.lt_of_lt_of_le (zv hw103_1) GW102.out)) | (dsimp only; exact Nat.ne_of_lt (Nat.lt_of_lt_of_le (zv hw103_1) GW102.out))) _).trans (((cell_far (p := ⟨gb102, _, none⟩) (by first | exact Nat.ne_of_lt (Nat.lt_of_lt_of_le (zv hw103_1) GW102.out) | (rw [add_block]; exact Nat.ne_of_lt (Nat.lt_of_lt_of_le (zv hw103_1) GW102.out)) | (show (Addr.add _ _).block ≠ _; rw [add_block]; exact Nat.ne_of_lt (Nat.lt_of_lt_of_le (zv hw103_1) GW102.out)) | (dsimp only; exact Nat.ne_of_lt (Nat.lt_of_lt_of_le (zv hw103_1) GW102.out))) _).trans (hHeld.2.1)))), ((cell_far (p := ⟨gb102, _, none⟩) (by first | exact Nat.ne_of_lt (Nat.lt_of_lt_of_le (zv hw104_0) GW102.out) | (rw [add_block]; exact Nat.ne_of_lt (Nat.lt_of_lt_of_le (zv hw104_0) GW102.out)) | (show (Addr.add _ _).block ≠ _; rw [add_block]; exact Nat.ne_of_lt (Nat.lt_of_lt_of_le (zv hw104_0) GW102.out)) | (dsimp only; exact Nat.ne_of_lt (Nat.lt_of_lt_of_le (zv hw104_0) GW102.out))) _).trans (((cell_far (p := ⟨gb102, _, none⟩) (by first | exact Nat.ne_of_lt (Nat.lt_of_lt_of_le (zv hw104_0) GW102.out) | (rw [add_block]; exact Nat.ne_of_lt (Nat.lt_of_lt_of_le (zv hw104_0) GW102.out)) | (show (Addr.add _ _).block ≠ _; rw [add_block]; exact Nat.ne_of_lt (Nat.lt_of_lt_of_le (zv hw104_0) GW102.out)) | (dsimp only; exact Nat.ne_of_lt (Nat.lt_of_lt_of_le (zv hw104_0) GW102.out))) _).trans (hHeld.2.2.1)))), ((cell_far (p := ⟨gb102, _, none⟩) (by first | exact Nat.ne_of_lt (Nat.lt_of_lt_of_le (zv hw104_1) GW102.out) | (rw [add_block]; exact Nat.ne_of_lt (Nat.lt_of_lt_of_le (zv hw104_1) GW102.out)) | (show (Addr.add _ _).block ≠ _; rw [add_block]; exact Nat.ne_of_lt (Nat.lt_of_lt_of_le (zv hw104_1) GW102.out)) | (dsimp only; exact Nat.ne_of_lt (Nat.lt_of_lt_of_le (zv hw104_1) GW102.out))) _).trans (((cell_far (p := ⟨gb102, _, none⟩) (by first | exact Nat.ne_of_lt (Nat.lt_of_lt_of_le (zv hw104_1) GW102.out) | (rw [add_block]; exact Nat.ne_of_lt (Nat.lt_of_lt_of_le (zv hw104_1) GW102.out)) | (show (Addr.add _ _).block ≠ _; rw [add_block]; exact Nat.ne_of_lt (Nat.lt_of_lt_of_le (zv hw104_1) GW102.out)) | (dsimp only; exact Nat.ne_of_lt (Nat.lt_of_lt_of_le (zv hw104_1) GW102.out))) _).trans (hHeld.2.2.2))))⟩ (fun hHeld => ?_)
       clear hK K
       refine done_ (done_of HT_.out (by kernel_rfl)) ?_
       have hnb17 := NB102_101.out
       have hnc17 := NB101_102.out
       have hcz18_0 : w12.cell? ⟨gb102, 0, none⟩ = some (.int .i64 0) := zy BK102 0
       have hcz18_1 : w12.cell? ⟨gb102, 1, none⟩ = some (.int .i64 0) := zy BK102 1
       have hfz18_0 := blk_frozen BK102.out 0
       have hfz18_1 := blk_frozen BK102.out 1
       try go_wp2
       have H101 := BK101
       have H102 := BK102
       refine start_ (n := 4) (S := fun w' => True) (ds := []) #[false, false, false, false] (by kernel_rfl) rfl rfl trivial (fun hHeld => ?_)
       refine inv_at (T := endsT0) (B := endsT0B) [0, 1, 2, 3] (fun a0_ b a w' => a = putSel a0_ b [(0, 27, .agg #[.int .i64 ((rd_T55 l0 a1).f0), .int .i64 ((rd_T55 l0 a1).f1)]), (1, 28, .agg #[.int .i64 (wrap64 (((rd_T55 l0 (ji6)).f0) + 3600)), .int .i64 ((rd_T55 l0 (ji6)).f1)])] ∧ (Below w.heap.size w w') ∧ (Box2 w' gb101 55 (.int .i64 ((rd_T55 l0 a1).f0)) (.int .i64 ((rd_T55 l0 a1).f1))) ∧ (Box2 w' gb102 55 (.int .i64 (wrap64 (((rd_T55 l0 (ji6)).f0) + 3600))) (.int .i64 ((rd_T55 l0 (ji6)).f1)))) (by kernel_rfl) (by kernel_rfl) (by kernel_rfl) (by kernel_rfl) ?_ ?_ ?_
       ·exact ⟨by simp only [putSel, Bool.false_eq_true, if_false], zh, (by unfold Box2; refine zm ?_; refine blk_far ?_ NB101_102.out _; refine zm ?_; refine blk_far ?_ NB101_102.out _; refine zm ?_; refine blk_far ?_ NB101_102.out _; refine zm ?_; refine blk_put (cs := #[.int .i64 ((rd_T55 l0 a1).f0), .int .i64 0]) ?_ 1 _ rfl; refine zm ?_; refine blk_put (cs := #[.int .i64 0, .int .i64 0]) ?_ 0 _ rfl; refine zm ?_; exact BK101.out), (by unfold Box2; refine zm ?_; refine blk_put (cs := #[.int .i64 ((rd_T55 l0 (ji6)).f0), .int .i64 ((rd_T55 l0 (ji6)).f1)]) ?_ 0 _ rfl; refine zm ?_; refine blk_put (cs := #[.int .i64 ((rd_T55 l0 (ji6)).f0), .int .i64 0]) ?_ 1 _ rfl; refine zm ?_; refine blk_put (cs := #[.int .i64 0, .int .i64 0]) ?_ 0 _ rfl; refine zm ?_; refine blk_far ?_ NB102_101.out _; refine zm ?_; refine blk_far ?_ NB102_101.out _; refine zm ?_; exact BK102.out)⟩
       ·skip
        clear H101 H102 HB
        refine steps_cons ?_ ?_
        ·rintro b a w' ⟨ha, Q_HB, Q_H101, Q_H102⟩ hb_ hon hoff
         refine ⟨_, rfl, fun K hK => ?_⟩
         have e4 : a.tmps[4]? = some (.pointer (some ⟨gb101, 0, none⟩)) := by rw [ha]; exact (putSel_off rfl).trans rfl
         replace ha := Aside0.mk ha
         have HB := Aside0.mk Q_HB
         have H101 := Aside0.mk Q_H101
         have H102 := Aside0.mk Q_H102
         have hc0 := H101.out.cell0
         have hc1 := H101.out.cell1
         refine value_ (w1 := w') (v := .agg #[.int .i64 ((rd_T55 l0 a1).f0), .int .i64 ((rd_T55 l0 a1).f1)]) (by rfl) rfl ?_ ?_
         ·go_simp
          (try simp only [i64_w])
          try rfl
         refine hK.out _ _ ⟨(by rw [ha.out]; exact putSel_upk 0 hb_ rfl rfl rfl), Q_HB, Q_H101, Q_H102⟩
        refine steps_cons ?_ ?_
        ·rintro b a w' ⟨ha, Q_HB, Q_H101, Q_H102⟩ hb_ hon hoff
         refine ⟨_, rfl, fun K hK => ?_⟩
         have e5 : a.tmps[5]? = some (.pointer (some ⟨gb102, 0, none⟩)) := by rw [ha]; exact (putSel_off rfl).trans rfl
         replace ha := Aside0.mk ha
         have HB := Aside0.mk Q_HB
         have H101 := Aside0.mk Q_H101
         have H102 := Aside0.mk Q_H102
         have hc0 := H102.out.cell0
         have hc1 := H102.out.cell1
         refine value_ (w1 := w') (v := .agg #[.int .i64 (wrap64 (((rd_T55 l0 (ji6)).f0) + 3600)), .int .i64 ((rd_T55 l0 (ji6)).f1)]) (by rfl) rfl ?_ ?_
         ·go_simp
          (try simp only [i64_w])
          try rfl
         refine hK.out _ _ ⟨(by rw [ha.out]; exact putSel_upk 1 hb_ rfl rfl rfl), Q_HB, Q_H101, Q_H102⟩
        refine steps_cons ?_ ?_
        ·rintro b a w' ⟨ha, Q_HB, Q_H101, Q_H102⟩ hb_ hon hoff
         refine ⟨_, rfl, fun K hK => ?_⟩
         have e4 : a.tmps[4]? = some (.pointer (some ⟨gb101, 0, none⟩)) := by rw [ha]; exact (putSel_off rfl).trans rfl
         have e27 : a.tmps[27]? = some (.agg #[.int .i64 ((rd_T55 l0 a1).f0), .int .i64 ((rd_T55 l0 a1).f1)]) := by rw [ha]; exact putSel_on (e := (0, 27, .agg #[.int .i64 ((rd_T55 l0 a1).f0), .int .i64 ((rd_T55 l0 a1).f1)])) 0 rfl rfl (hon 0 (by kernel_rfl)) rfl
         replace ha := Aside0.mk ha
         have HB := Aside0.mk Q_HB
         have H101 := Aside0.mk Q_H101
         have H102 := Aside0.mk Q_H102
         have hc0 := H101.out.cell0
         have hc1 := H101.out.cell1
         have hf0 := H101.out.frozen0
         have hf1 := H101.out.frozen1
         refine skip_ (w1 := ?_) (by rfl) rfl ?_ ?_
         rotate_left
         ·go_simp
          rfl
         refine hK.out _ _ ⟨(by rw [ha.out]; exact putSel_none (v := undef) rfl), below_set (below_set HB.out GE101.out) GE101.out, H101.out.set2 _ _, box2_far NB101_102.out (box2_far NB101_102.out H102.out)⟩
        refine steps_cons ?_ ?_
        ·rintro b a w' ⟨ha, Q_HB, Q_H101, Q_H102⟩ hb_ hon hoff
         refine ⟨_, rfl, fun K hK => ?_⟩
         have e5 : a.tmps[5]? = some (.pointer (some ⟨gb102, 0, none⟩)) := by rw [ha]; exact (putSel_off rfl).trans rfl
         have e28 : a.tmps[28]? = some (.agg #[.int .i64 (wrap64 (((rd_T55 l0 (ji6)).f0) + 3600)), .int .i64 ((rd_T55 l0 (ji6)).f1)]) := by rw [ha]; exact putSel_on (e := (1, 28, .agg #[.int .i64 (wrap64 (((rd_T55 l0 (ji6)).f0) + 3600)), .int .i64 ((rd_T55 l0 (ji6)).f1)])) 1 rfl rfl (hon 1 (by kernel_rfl)) rfl
         replace ha := Aside0.mk ha
         have HB := Aside0.mk Q_HB
         have H101 := Aside0.mk Q_H101
         have H102 := Aside0.mk Q_H102
         have hc0 := H102.out.cell0
         have hc1 := H102.out.cell1
         have hf0 := H102.out.frozen0
         have hf1 := H102.out.frozen1
         refine skip_ (w1 := ?_) (by rfl) rfl ?_ ?_
         rotate_left
         ·go_simp
          rfl
         refine hK.out _ _ ⟨(by rw [ha.out]; exact putSel_none (v := undef) rfl), below_set (below_set HB.out GE102.out) GE102.out, box2_far NB102_101.out (box2_far NB102_101.out H101.out), H102.out.set2 _ _⟩
        exact steps_nil
       ·rintro b a w' hall ⟨ha, Q_HB, Q_H101, Q_H102⟩
        clear H101 H102 HB
        have hb0_ := hall 0 (by kernel_rfl)
        have hb1_ := hall 1 (by kernel_rfl)
        have hb2_ := hall 2 (by kernel_rfl)
        have hb3_ := hall 3 (by kernel_rfl)
        subst ha
        simp only [putSel, hb0_, hb1_, hb2_, hb3_, if_true, Act.put, List.setIfInBounds_toArray, List.set_cons_zero, List.set_cons_succ]
        have HB := Aside0.mk Q_HB
        clear Q_HB
        have H101 := Aside0.mk Q_H101
        clear Q_H101
        have H102 := Aside0.mk Q_H102
        clear Q_H102
        clear hall hb0_ hb1_ hb2_ hb3_
        go_wp2
        refine bodyPost_ret (results_cc rfl _ _ gb101 gb102 55 55 #[.int .i64 ((rd_T55 l0 a1).f0), .int .i64 ((rd_T55 l0 a1).f1)] #[.int .i64 (wrap64 (((rd_T55 l0 (ji6)).f0) + 3600)), .int .i64 ((rd_T55 l0 (ji6)).f1)] (0, 0) (0, 0) _ _ rfl H101.out Try.underlying55 rfl (by kernel_rfl) rfl H102.out Try.underlying55 rfl (by kernel_rfl)) rfl ?_
        exact ⟨by first | rfl | (simp [errW_none, errW_some] <;> rfl) | (simp only [← hji6]; first | rfl | (simp [errW_none, errW_some] <;> rfl)) | (simp [*, errW_none, errW_some] <;> rfl), HB.out⟩
      ·rw [if_neg c9] at H
       have c9b0 : ((wrap64 (a1 + 1)) == (l0.length : Int)) = false := beq_eq_false_iff_ne.mpr c9
       have c9b1 : ((wrap64 (a1 + 1)) != (l0.length : Int)) = true := bne_iff_ne.mpr c9
       simp only [Option.some.injEq, Prod.mk.injEq] at H
       obtain ⟨rfl, rfl, rfl, rfl⟩ := H
       go_enter Try.func38, Try.ntmps38
       try go_wp2_with (first | ((with_reducible refine gD 4 rfl ?_); refine zx 4 #[.int .i64 0, .int .i64 0] 55 ?_; intro gb101 hg w19 hbox hb; have BK101 := Aside0.mk (hbox); have GW101 := zG w hg; have GE101 := zG w hg; replace HB := zd hb; clear hb hbox hg) | ((with_reducible refine gD 5 rfl ?_); refine zx 5 #[.int .i64 0, .int .i64 0] 55 ?_; intro gb102 hg w20 hbox hb; have BK102 := Aside0.mk (hbox); have GW102 := zG w hg; have GE102 := zG w hg; replace HB := zd hb; have NB101_102 := zN BK101 hg; have NB102_101 := zM BK101 hg; replace BK101 := zk BK101 hb; clear hb hbox hg))
       replace BK101 := Aside0.mk (blk_drew BK101.out)
       replace BK102 := Aside0.mk (blk_drew BK102.out)
       replace HB := Aside0.mk (below_drew1 HB.out)
       have p103 : 0 ≤ (a1 : Int) := zp
       have q103 : a1 < (l0.length : Int) := zp
       obtain ⟨ad103, e103, hx103_0, hx103_1⟩ := at_T55 HR0.out a1 p103 q103
       have hw103_1 := hx103_1
       have hw103_0 := hx103_0
       cases e103
       replace hx103_0 := (HB.out.cell (World.block_lt_of_cell? w _ hx103_0)).trans hx103_0
       replace hx103_1 := (HB.out.cell (World.block_lt_of_cell? w _ hx103_1)).trans hx103_1
       replace p103 := eq_true p103
       replace q103 := eq_true q103
       have p104 : 0 ≤ ((ji6) : Int) := zp
       have q104 : (ji6) < (l0.length : Int) := zp
       obtain ⟨ad104, e104, hx104_0, hx104_1⟩ := at_T55 HR0.out (ji6) p104 q104
       have hw104_1 := hx104_1
       have hw104_0 := hx104_0
       obtain rfl : ad103 = ad104 := (by injection e104)
       replace hx104_0 := (HB.out.cell (World.block_lt_of_cell? w _ hx104_0)).trans hx104_0
       replace hx104_1 := (HB.out.cell (World.block_lt_of_cell? w _ hx104_1)).trans hx104_1
       replace p104 := eq_true p104
       replace q104 := eq_true q104
       refine start_ (n := 14) (S := fun w' => w'.cell? (ad103.add ((a1).toNat * 2)) = some (.int .i64 ((rd_T55 l0 a1).f0)) ∧ w'.cell? ⟨(ad103.add ((a1).toNat * 2)).block, (ad103.add ((a1).toNat * 2)).off + 1, none⟩ = some (.int .i64 ((rd_T55 l0 a1).f1)) ∧ w'.cell? (ad103.add (((ji6)).toNat * 2)) = some (.int .i64 ((rd_T55 l0 (ji6)).f0)) ∧ w'.cell? ⟨(ad103.add (((ji6)).toNat * 2)).block, (ad103.add (((ji6)).toNat * 2)).off + 1, none⟩ = some (.int .i64 ((rd_T55 l0 (ji6)).f1))) (ds := []) #[false, false, false, false, false, false, false, false, false, false, false, false, false, false] (by kernel_rfl) rfl rfl ⟨((HB.out.cell (World.block_lt_of_cell? w _ hw103_0)).trans hw103_0), ((HB.out.cell (World.block_lt_of_cell? w _ hw103_1)).trans hw103_1), ((HB.out.cell (World.block_lt_of_cell? w _ hw104_0)).trans hw104_0), ((HB.out.cell (World.block_lt_of_cell? w _ hw104_1)).trans hw104_1)⟩ (fun hHeld => ?_); refine with_tabW agoniclaw05_ends.tab1 agoniclaw05_ends.bits1 (fun HT_ HW_ => ?_)
       generalize w20.drew = w21 at BK101 BK102 HB hx103_0 hx103_1 hx104_0 hx104_1 hHeld ⊢
       refine pq HT_ 0 6 14 1 ?_
       refine pq HT_ 1 7 14 3 ?_
       refine pq HT_ 2 8 14 7 ?_
       refine pq HT_ 4 10 14 23 ?_
       refine pq HT_ 5 11 14 55 ?_
       refine pq HT_ 6 12 14 119 ?_
       refine pq HT_ 7 13 14 247 ?_
       refine pq HT_ 8 14 14 503 ?_
       refine pq HT_ 9 15 14 1015 ?_
       refine pq HT_ 10 16 14 2039 ?_
       refine take_ (i := 3) (N := some 9) (v := ?_) (a' := ?_) #[true, true, true, true, true, true, true, true, true, true, true, false, false, false] rfl rfl (take_ofW HT_.out HW_.out (by kernel_rfl)) (fun _ _ _ h => h) (Or.inl ⟨by rfl, ?_⟩) hHeld ?_ ?_
       rotate_left
       ·rintro w' ⟨s0, s1, s2, s3⟩
        go_simp
        with_reducible rfl
       rotate_left
       ·simp only [Act.put, List.setIfInBounds_toArray, List.set_cons_zero, List.set_cons_succ, i64_w, i32_w]
        rfl
       refine take_ (i := 11) (N := some 17) (v := ?_) (a' := ?_) #[true, true, true, true, true, true, true, true, true, true, true, true, false, false] rfl rfl (take_ofW HT_.out HW_.out (by kernel_rfl)) (fun _ _ _ h => h) (Or.inl ⟨by rfl, ?_⟩) hHeld ?_ ?_
       rotate_left
       ·rintro w' ⟨s0, s1, s2, s3⟩
        go_simp
        with_reducible rfl
       rotate_left
       ·simp only [Act.put, List.setIfInBounds_toArray, List.set_cons_zero, List.set_cons_succ, i64_w, i32_w]
        rfl
       refine one_ (i := 12) (N := none) #[true, true, true, true, true, true, true, true, true, true, true, true, true, false] rfl rfl (one_of HT_.out (by kernel_rfl)) (by decide) (fun K hK => ?_)
       have hs22 : w21.cell? ⟨gb101, 0, none⟩ = some (.int .i64 0) := zy BK101 0
       have hfs22 := blk_frozen BK101.out 0
       have hns22_1 := NB102_101.out
       have hms22_1 := NB101_102.out
       have hs23 : w21.cell? ⟨gb101, 1, none⟩ = some (.int .i64 0) := zy BK101 1
       have hfs23 := blk_frozen BK101.out 1
       have hns23_1 := NB102_101.out
       have hms23_1 := NB101_102.out
       refine skip_ (w1 := ?_) (by rfl) rfl ?_ ?_
       rotate_left
       ·go_simp
        rfl
       refine hK.out _ _ ⟨((cell_far (p := ⟨gb101, _, none⟩) (by first | exact Nat.ne_of_lt (Nat.lt_of_lt_of_le (zv hw103_0) GW101.out) | (rw [add_block]; exact Nat.ne_of_lt (Nat.lt_of_lt_of_le (zv hw103_0) GW101.out)) | (show (Addr.add _ _).block ≠ _; rw [add_block]; exact Nat.ne_of_lt (Nat.lt_of_lt_of_le (zv hw103_0) GW101.out)) | (dsimp only; exact Nat.ne_of_lt (Nat.lt_of_lt_of_le (zv hw103_0) GW101.out))) _).trans (((cell_far (p := ⟨gb101, _, none⟩) (by first | exact Nat.ne_of_lt (Nat.lt_of_lt_of_le (zv hw103_0) GW101.out) | (rw [add_block]; exact Nat.ne_of_lt (Nat.lt_of_lt_of_le (zv hw103_0) GW101.out)) | (show (Addr.add _ _).block ≠ _; rw [add_block]; exact Nat.ne_of_lt (Nat.lt_of_lt_of_le (zv hw103_0) GW101.out)) | (dsimp only; exact Nat.ne_of_lt (Nat.lt_of_lt_of_le (zv hw103_0) GW101.out))) _).trans (hHeld.1)))), ((cell_far (p := ⟨gb101, _, none⟩) (by first | exact Nat.ne_of_lt (Nat.lt_of_lt_of_le (zv hw103_1) GW101.out) | (rw [add_block]; exact Nat.ne_of_lt (Nat.lt_of_lt_of_le (zv hw103_1) GW101.out)) | (show (Addr.add _ _).block ≠ _; rw [add_block]; exact Nat.ne_of_lt (Nat.lt_of_lt_of_le (zv hw103_1) GW101.out)) | (dsimp only; exact Nat.ne_of_lt (Nat.lt_of_lt_of_le (zv hw103_1) GW101.out))) _).trans (((cell_far (p := ⟨gb101, _, none⟩) (by first | exact Nat.ne_of_lt (Nat.lt_of_lt_of_le (zv hw103_1) GW101.out) | (rw [add_block]; exact Nat.ne_of_lt (Nat.lt_of_lt_of_le (zv hw103_1) GW101.out)) | (show (Addr.add _ _).block ≠ _; rw [add_block]; exact Nat.ne_of_lt (Nat.lt_of_lt_of_le (zv hw103_1) GW101.out)) | (dsimp only; exact Nat.ne_of_lt (Nat.lt_of_lt_of_le (zv hw103_1) GW101.out))) _).trans (hHeld.2.1)))), ((cell_far (p := ⟨gb101, _, none⟩) (by first | exact Nat.ne_of_lt (Nat.lt_of_lt_of_le (zv hw104_0) GW101.out) | (rw [add_block]; exact Nat.ne_of_lt (Nat.lt_of_lt_of_le (zv hw104_0) GW101.out)) | (show (Addr.add _ _).block ≠ _; rw [add_block]; exact Nat.ne_of_lt (Nat.lt_of_lt_of_le (zv hw104_0) GW101.out)) | (dsimp only; exact Nat.ne_of_lt (Nat.lt_of_lt_of_le (zv hw104_0) GW101.out))) _).trans (((cell_far (p := ⟨gb101, _, none⟩) (by first | exact Nat.ne_of_lt (Nat.lt_of_lt_of_le (zv hw104_0) GW101.out) | (rw [add_block]; exact Nat.ne_of_lt (Nat.lt_of_lt_of_le (zv hw104_0) GW101.out)) | (show (Addr.add _ _).block ≠ _; rw [add_block]; exact Nat.ne_of_lt (Nat.lt_of_lt_of_le (zv hw104_0) GW101.out)) | (dsimp only; exact Nat.ne_of_lt (Nat.lt_of_lt_of_le (zv hw104_0) GW101.out))) _).trans (hHeld.2.2.1)))), ((cell_far (p := ⟨gb101, _, none⟩) (by first | exact Nat.ne_of_lt (Nat.lt_of_lt_of_le (zv hw104_1) GW101.out) | (rw [add_block]; exact Nat.ne_of_lt (Nat.lt_of_lt_of_le (zv hw104_1) GW101.out)) | (show (Addr.add _ _).block ≠ _; rw [add_block]; exact Nat.ne_of_lt (Nat.lt_of_lt_of_le (zv hw104_1) GW101.out)) | (dsimp only; exact Nat.ne_of_lt (Nat.lt_of_lt_of_le (zv hw104_1) GW101.out))) _).trans (((cell_far (p := ⟨gb101, _, none⟩) (by first | exact Nat.ne_of_lt (Nat.lt_of_lt_of_le (zv hw104_1) GW101.out) | (rw [add_block]; exact Nat.ne_of_lt (Nat.lt_of_lt_of_le (zv hw104_1) GW101.out)) | (show (Addr.add _ _).block ≠ _; rw [add_block]; exact Nat.ne_of_lt (Nat.lt_of_lt_of_le (zv hw104_1) GW101.out)) | (dsimp only; exact Nat.ne_of_lt (Nat.lt_of_lt_of_le (zv hw104_1) GW101.out))) _).trans (hHeld.2.2.2))))⟩ (fun hHeld => ?_)
       clear hK K
       refine one_ (i := 13) (N := none) #[true, true, true, true, true, true, true, true, true, true, true, true, true, true] rfl rfl (one_of HT_.out (by kernel_rfl)) (by decide) (fun K hK => ?_)
       have hs24 : w21.cell? ⟨gb102, 0, none⟩ = some (.int .i64 0) := zy BK102 0
       have hfs24 := blk_frozen BK102.out 0
       have hns24_0 := NB101_102.out
       have hms24_0 := NB102_101.out
       have hs25 : w21.cell? ⟨gb102, 1, none⟩ = some (.int .i64 0) := zy BK102 1
       have hfs25 := blk_frozen BK102.out 1
       have hns25_0 := NB101_102.out
       have hms25_0 := NB102_101.out
       refine skip_ (w1 := ?_) (by rfl) rfl ?_ ?_
       rotate_left
       ·go_simp
        rfl
       refine hK.out _ _ ⟨((cell_far (p := ⟨gb102, _, none⟩) (by first | exact Nat.ne_of_lt (Nat.lt_of_lt_of_le (zv hw103_0) GW102.out) | (rw [add_block]; exact Nat.ne_of_lt (Nat.lt_of_lt_of_le (zv hw103_0) GW102.out)) | (show (Addr.add _ _).block ≠ _; rw [add_block]; exact Nat.ne_of_lt (Nat.lt_of_lt_of_le (zv hw103_0) GW102.out)) | (dsimp only; exact Nat.ne_of_lt (Nat.lt_of_lt_of_le (zv hw103_0) GW102.out))) _).trans (((cell_far (p := ⟨gb102, _, none⟩) (by first | exact Nat.ne_of_lt (Nat.lt_of_lt_of_le (zv hw103_0) GW102.out) | (rw [add_block]; exact Nat.ne_of_lt (Nat.lt_of_lt_of_le (zv hw103_0) GW102.out)) | (show (Addr.add _ _).block ≠ _; rw [add_block]; exact Nat.ne_of_lt (Nat.lt_of_lt_of_le (zv hw103_0) GW102.out)) | (dsimp only; exact Nat.ne_of_lt (Nat.lt_of_lt_of_le (zv hw103_0) GW102.out))) _).trans (hHeld.1)))), ((cell_far (p := ⟨gb102, _, none⟩) (by first | exact Nat.ne_of_lt (Nat.lt_of_lt_of_le (zv hw103_1) GW102.out) | (rw [add_block]; exact Nat.ne_of_lt (Nat.lt_of_lt_of_le (zv hw103_1) GW102.out)) | (show (Addr.add _ _).block ≠ _; rw [add_block]; exact Nat.ne_of_lt (Nat.lt_of_lt_of_le (zv hw103_1) GW102.out)) | (dsimp only; exact Nat.ne_of_lt (Nat.lt_of_lt_of_le (zv hw103_1) GW102.out))) _).trans (((cell_far (p := ⟨gb102, _, none⟩) (by first | exact Nat.ne_of_lt (Nat.lt_of_lt_of_le (zv hw103_1) GW102.out) | (rw [add_block]; exact Nat.ne_of_lt (Nat.lt_of_lt_of_le (zv hw103_1) GW102.out)) | (show (Addr.add _ _).block ≠ _; rw [add_block]; exact Nat.ne_of_lt (Nat.lt_of_lt_of_le (zv hw103_1) GW102.out)) | (dsimp only; exact Nat.ne_of_lt (Nat.lt_of_lt_of_le (zv hw103_1) GW102.out))) _).trans (hHeld.2.1)))), ((cell_far (p := ⟨gb102, _, none⟩) (by first | exact Nat.ne_of_lt (Nat.lt_of_lt_of_le (zv hw104_0) GW102.out) | (rw [add_block]; exact Nat.ne_of_lt (Nat.lt_of_lt_of_le (zv hw104_0) GW102.out)) | (show (Addr.add _ _).block ≠ _; rw [add_block]; exact Nat.ne_of_lt (Nat.lt_of_lt_of_le (zv hw104_0) GW102.out)) | (dsimp only; exact Nat.ne_of_lt (Nat.lt_of_lt_of_le (zv hw104_0) GW102.out))) _).trans (((cell_far (p := ⟨gb102, _, none⟩) (by first | exact Nat.ne_of_lt (Nat.lt_of_lt_of_le (zv hw104_0) GW102.out) | (rw [add_block]; exact Nat.ne_of_lt (Nat.lt_of_lt_of_le (zv hw104_0) GW102.out)) | (show (Addr.add _ _).block ≠ _; rw [add_block]; exact Nat.ne_of_lt (Nat.lt_of_lt_of_le (zv hw104_0) GW102.out)) | (dsimp only; exact Nat.ne_of_lt (Nat.lt_of_lt_of_le (zv hw104_0) GW102.out))) _).trans (hHeld.2.2.1)))), ((cell_far (p := ⟨gb102, _, none⟩) (by first | exact Nat.ne_of_lt (Nat.lt_of_lt_of_le (zv hw104_1) GW102.out) | (rw [add_block]; exact Nat.ne_of_lt (Nat.lt_of_lt_of_le (zv hw104_1) GW102.out)) | (show (Addr.add _ _).block ≠ _; rw [add_block]; exact Nat.ne_of_lt (Nat.lt_of_lt_of_le (zv hw104_1) GW102.out)) | (dsimp only; exact Nat.ne_of_lt (Nat.lt_of_lt_of_le (zv hw104_1) GW102.out))) _).trans (((cell_far (p := ⟨gb102, _, none⟩) (by first | exact Nat.ne_of_lt (Nat.lt_of_lt_of_le (zv hw104_1) GW102.out) | (rw [add_block]; exact Nat.ne_of_lt (Nat.lt_of_lt_of_le (zv hw104_1) GW102.out)) | (show (Addr.add _ _).block ≠ _; rw [add_block]; exact Nat.ne_of_lt (Nat.lt_of_lt_of_le (zv hw104_1) GW102.out)) | (dsimp only; exact Nat.ne_of_lt (Nat.lt_of_lt_of_le (zv hw104_1) GW102.out))) _).trans (hHeld.2.2.2))))⟩ (fun hHeld => ?_)
       clear hK K
       refine done_ (done_of HT_.out (by kernel_rfl)) ?_
       try go_wp2
       have H101 := BK101
       have H102 := BK102
       refine start_ (n := 4) (S := fun w' => True) (ds := []) #[false, false, false, false] (by kernel_rfl) rfl rfl trivial (fun hHeld => ?_)
       refine inv_at (T := endsT1) (B := endsT1B) [0, 1, 2, 3] (fun a0_ b a w' => a = putSel a0_ b [(0, 27, .agg #[.int .i64 ((rd_T55 l0 a1).f0), .int .i64 ((rd_T55 l0 a1).f1)]), (1, 28, .agg #[.int .i64 ((rd_T55 l0 (ji6)).f0), .int .i64 ((rd_T55 l0 (ji6)).f1)])] ∧ (Below w.heap.size w w') ∧ (Box2 w' gb101 55 (.int .i64 ((rd_T55 l0 a1).f0)) (.int .i64 ((rd_T55 l0 a1).f1))) ∧ (Box2 w' gb102 55 (.int .i64 ((rd_T55 l0 (ji6)).f0)) (.int .i64 ((rd_T55 l0 (ji6)).f1)))) (by kernel_rfl) (by kernel_rfl) (by kernel_rfl) (by kernel_rfl) ?_ ?_ ?_
       ·exact ⟨by simp only [putSel, Bool.false_eq_true, if_false], zh, (by unfold Box2; refine zm ?_; refine blk_far ?_ NB101_102.out _; refine zm ?_; refine blk_far ?_ NB101_102.out _; refine zm ?_; refine blk_put (cs := #[.int .i64 ((rd_T55 l0 a1).f0), .int .i64 0]) ?_ 1 _ rfl; refine zm ?_; refine blk_put (cs := #[.int .i64 0, .int .i64 0]) ?_ 0 _ rfl; refine zm ?_; exact BK101.out), (by unfold Box2; refine zm ?_; refine blk_put (cs := #[.int .i64 ((rd_T55 l0 (ji6)).f0), .int .i64 0]) ?_ 1 _ rfl; refine zm ?_; refine blk_put (cs := #[.int .i64 0, .int .i64 0]) ?_ 0 _ rfl; refine zm ?_; refine blk_far ?_ NB102_101.out _; refine zm ?_; refine blk_far ?_ NB102_101.out _; refine zm ?_; exact BK102.out)⟩
       ·skip
        clear H101 H102 HB
        refine steps_cons ?_ ?_
        ·rintro b a w' ⟨ha, Q_HB, Q_H101, Q_H102⟩ hb_ hon hoff
         refine ⟨_, rfl, fun K hK => ?_⟩
         have e4 : a.tmps[4]? = some (.pointer (some ⟨gb101, 0, none⟩)) := by rw [ha]; exact (putSel_off rfl).trans rfl
         replace ha := Aside0.mk ha
         have HB := Aside0.mk Q_HB
         have H101 := Aside0.mk Q_H101
         have H102 := Aside0.mk Q_H102
         have hc0 := H101.out.cell0
         have hc1 := H101.out.cell1
         refine value_ (w1 := w') (v := .agg #[.int .i64 ((rd_T55 l0 a1).f0), .int .i64 ((rd_T55 l0 a1).f1)]) (by rfl) rfl ?_ ?_
         ·go_simp
          (try simp only [i64_w])
          try rfl
         refine hK.out _ _ ⟨(by rw [ha.out]; exact putSel_upk 0 hb_ rfl rfl rfl), Q_HB, Q_H101, Q_H102⟩
        refine steps_cons ?_ ?_
        ·rintro b a w' ⟨ha, Q_HB, Q_H101, Q_H102⟩ hb_ hon hoff
         refine ⟨_, rfl, fun K hK => ?_⟩
         have e5 : a.tmps[5]? = some (.pointer (some ⟨gb102, 0, none⟩)) := by rw [ha]; exact (putSel_off rfl).trans rfl
         replace ha := Aside0.mk ha
         have HB := Aside0.mk Q_HB
         have H101 := Aside0.mk Q_H101
         have H102 := Aside0.mk Q_H102
         have hc0 := H102.out.cell0
         have hc1 := H102.out.cell1
         refine value_ (w1 := w') (v := .agg #[.int .i64 ((rd_T55 l0 (ji6)).f0), .int .i64 ((rd_T55 l0 (ji6)).f1)]) (by rfl) rfl ?_ ?_
         ·go_simp
          (try simp only [i64_w])
          try rfl
         refine hK.out _ _ ⟨(by rw [ha.out]; exact putSel_upk 1 hb_ rfl rfl rfl), Q_HB, Q_H101, Q_H102⟩
        refine steps_cons ?_ ?_
        ·rintro b a w' ⟨ha, Q_HB, Q_H101, Q_H102⟩ hb_ hon hoff
         refine ⟨_, rfl, fun K hK => ?_⟩
         have e4 : a.tmps[4]? = some (.pointer (some ⟨gb101, 0, none⟩)) := by rw [ha]; exact (putSel_off rfl).trans rfl
         have e27 : a.tmps[27]? = some (.agg #[.int .i64 ((rd_T55 l0 a1).f0), .int .i64 ((rd_T55 l0 a1).f1)]) := by rw [ha]; exact putSel_on (e := (0, 27, .agg #[.int .i64 ((rd_T55 l0 a1).f0), .int .i64 ((rd_T55 l0 a1).f1)])) 0 rfl rfl (hon 0 (by kernel_rfl)) rfl
         replace ha := Aside0.mk ha
         have HB := Aside0.mk Q_HB
         have H101 := Aside0.mk Q_H101
         have H102 := Aside0.mk Q_H102
         have hc0 := H101.out.cell0
         have hc1 := H101.out.cell1
         have hf0 := H101.out.frozen0
         have hf1 := H101.out.frozen1
         refine skip_ (w1 := ?_) (by rfl) rfl ?_ ?_
         rotate_left
         ·go_simp
          rfl
         refine hK.out _ _ ⟨(by rw [ha.out]; exact putSel_none (v := undef) rfl), below_set (below_set HB.out GE101.out) GE101.out, H101.out.set2 _ _, box2_far NB101_102.out (box2_far NB101_102.out H102.out)⟩
        refine steps_cons ?_ ?_
        ·rintro b a w' ⟨ha, Q_HB, Q_H101, Q_H102⟩ hb_ hon hoff
         refine ⟨_, rfl, fun K hK => ?_⟩
         have e5 : a.tmps[5]? = some (.pointer (some ⟨gb102, 0, none⟩)) := by rw [ha]; exact (putSel_off rfl).trans rfl
         have e28 : a.tmps[28]? = some (.agg #[.int .i64 ((rd_T55 l0 (ji6)).f0), .int .i64 ((rd_T55 l0 (ji6)).f1)]) := by rw [ha]; exact putSel_on (e := (1, 28, .agg #[.int .i64 ((rd_T55 l0 (ji6)).f0), .int .i64 ((rd_T55 l0 (ji6)).f1)])) 1 rfl rfl (hon 1 (by kernel_rfl)) rfl
         replace ha := Aside0.mk ha
         have HB := Aside0.mk Q_HB
         have H101 := Aside0.mk Q_H101
         have H102 := Aside0.mk Q_H102
         have hc0 := H102.out.cell0
         have hc1 := H102.out.cell1
         have hf0 := H102.out.frozen0
         have hf1 := H102.out.frozen1
         refine skip_ (w1 := ?_) (by rfl) rfl ?_ ?_
         rotate_left
         ·go_simp
          rfl
         refine hK.out _ _ ⟨(by rw [ha.out]; exact putSel_none (v := undef) rfl), below_set (below_set HB.out GE102.out) GE102.out, box2_far NB102_101.out (box2_far NB102_101.out H101.out), H102.out.set2 _ _⟩
        exact steps_nil
       ·rintro b a w' hall ⟨ha, Q_HB, Q_H101, Q_H102⟩
        clear H101 H102 HB
        have hb0_ := hall 0 (by kernel_rfl)
        have hb1_ := hall 1 (by kernel_rfl)
        have hb2_ := hall 2 (by kernel_rfl)
        have hb3_ := hall 3 (by kernel_rfl)
        subst ha
        simp only [putSel, hb0_, hb1_, hb2_, hb3_, if_true, Act.put, List.setIfInBounds_toArray, List.set_cons_zero, List.set_cons_succ]
        have HB := Aside0.mk Q_HB
        clear Q_HB
        have H101 := Aside0.mk Q_H101
        clear Q_H101
        have H102 := Aside0.mk Q_H102
        clear Q_H102
        clear hall hb0_ hb1_ hb2_ hb3_
        go_wp2
        refine bodyPost_ret (results_cc rfl _ _ gb101 gb102 55 55 #[.int .i64 ((rd_T55 l0 a1).f0), .int .i64 ((rd_T55 l0 a1).f1)] #[.int .i64 ((rd_T55 l0 (ji6)).f0), .int .i64 ((rd_T55 l0 (ji6)).f1)] (0, 0) (0, 0) _ _ rfl H101.out Try.underlying55 rfl (by kernel_rfl) rfl H102.out Try.underlying55 rfl (by kernel_rfl)) rfl ?_
        exact ⟨by first | rfl | (simp [errW_none, errW_some] <;> rfl) | (simp only [← hji6]; first | rfl | (simp [errW_none, errW_some] <;> rfl)) | (simp [*, errW_none, errW_some] <;> rfl), HB.out⟩
     ·rw [if_neg c8] at H
      exact absurd H (by simp)
    ·rw [if_neg c7] at H
     exact absurd H (by simp)
  ·rw [if_neg c4] at H
   exact absurd H (by simp)
 ·rw [if_neg c3] at H
  exact absurd H (by simp)
end Go.Proofs.Ytccjefoejjnccaa.C
