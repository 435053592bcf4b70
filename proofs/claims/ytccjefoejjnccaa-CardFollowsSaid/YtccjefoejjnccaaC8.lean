-- Written by a program of this session (wip/tools/myprint.py, over the kit's print).
import Derived.Test.YtccjefoejjnccaaC0
import Derived.Test.YtccjefoejjnccaaZ
namespace Go.Proofs.Ytccjefoejjnccaa.C
open Go.RowKit Go.Proofs.YtccjefoejjnccaaW.PrintWords Go.Proofs.YtccjefoejjnccaaW.PrintLast Go.Proofs.YtccjefoejjnccaaW.PrintMore
attribute [local go_sem] max2_int min2_int max_two min_two max_three min_three max_four min_four   -- for this text's walks alone
set_option linter.unusedVariables false
set_option linter.unusedSimpArgs false
def agonicref05_segment.f (l0 : List (S54)) (a1 : Int) : Option (Int × Int × Int × Int) := if (wrap64 (a1 + 1)) < (l0.length : Int) then (if 0 ≤ a1 then (if a1 < (l0.length : Int) then (if 0 ≤ (wrap64 (a1 + 1)) then (some ((rd_T54 l0 a1).f0, (rd_T54 l0 a1).f1, (rd_T54 l0 (wrap64 (a1 + 1))).f0, (rd_T54 l0 (wrap64 (a1 + 1))).f1)) else (none)) else (none)) else (none)) else (if 0 ≤ a1 then (if a1 < (l0.length : Int) then (if 0 < (l0.length : Int) then (some ((rd_T54 l0 a1).f0, (rd_T54 l0 a1).f1, wrap64 (((rd_T54 l0 0).f0) + 3600), (rd_T54 l0 0).f1)) else (none)) else (none)) else (none))
def agonicref05_segment.T2 : Bool × List (List Nat × List Nat) := (true, [([], []), ([], []), ([0, 1], [0, 1]), ([2], [2]), ([], []), ([], []), ([5], [5]), ([4, 6], [4, 6]), ([7], [7]), ([3, 0, 1, 2, 3], [3]), ([8, 9, 0, 1, 2, 3, 4, 5, 6, 7, 8, 9], [8])])
def agonicref05_segment.B2 : List Nat := [0, 0, 3, 7, 0, 0, 32, 112, 240, 15, 1023]
theorem agonicref05_segment.tab2 : rtab .any (opsOf Try.f65 2) = agonicref05_segment.T2 := by kernel_rfl
theorem agonicref05_segment.bits2 : waitsOk agonicref05_segment.T2.2 agonicref05_segment.B2 = true := by kernel_rfl
def agonicref05_segment.T3 : Bool × List (List Nat × List Nat) := (true, [([], []), ([], []), ([0, 1], [0, 1]), ([2], [2]), ([], []), ([4], [4]), ([5], [5]), ([6], [6]), ([7], [7]), ([], []), ([9], [9]), ([10], [10]), ([11], [11]), ([8, 12], [8, 12]), ([3, 0, 1, 2, 3], [3]), ([13, 14, 0, 1, 2, 3, 4, 5, 6, 7, 8, 9, 10, 11, 12, 13, 14], [13])])
def agonicref05_segment.B3 : List Nat := [0, 0, 3, 7, 0, 16, 48, 112, 240, 0, 512, 1536, 3584, 8176, 15, 32767]
theorem agonicref05_segment.tab3 : rtab .any (opsOf Try.f65 3) = agonicref05_segment.T3 := by kernel_rfl
theorem agonicref05_segment.bits3 : waitsOk agonicref05_segment.T3.2 agonicref05_segment.B3 = true := by kernel_rfl
set_option maxHeartbeats 8000000 in
set_option maxRecDepth 100000 in
theorem agonicref05_segment.calls (A0 : Option Addr) (c0 : Nat) (l0 : List (S54)) (a1 : Int) (r1 : Int) (r2 : Int) (r3 : Int) (r4 : Int) (w : World) (hr0 : Kd.C k54 w A0 l0.length l0) (hc0 : l0.length ≤ c0) (h : agonicref05_segment.f l0 a1 = some (r1, r2, r3, r4)) :
  Calls Try.prog 65 #[.slice A0 l0.length c0, .int .i64 a1] w fun e w' => e = .returned (.tuple #[.agg #[.int .i64 r1, .int .i64 r2], .agg #[.int .i64 r3, .int .i64 r4]]) ∧ Below w.heap.size w w' := by
 have hu54 := Try.underlying54
 have HR0 := Aside0.mk hr0
 have HC0 := Aside0.mk hc0
 clear hr0 hc0
 have HB := Aside0.mk (Below.refl w.heap.size w)
 have H : (if (wrap64 (a1 + 1)) < (l0.length : Int) then (if 0 ≤ a1 then (if a1 < (l0.length : Int) then (if 0 ≤ (wrap64 (a1 + 1)) then (some ((rd_T54 l0 a1).f0, (rd_T54 l0 a1).f1, (rd_T54 l0 (wrap64 (a1 + 1))).f0, (rd_T54 l0 (wrap64 (a1 + 1))).f1)) else (none)) else (none)) else (none)) else (if 0 ≤ a1 then (if a1 < (l0.length : Int) then (if 0 < (l0.length : Int) then (some ((rd_T54 l0 a1).f0, (rd_T54 l0 a1).f1, wrap64 (((rd_T54 l0 0).f0) + 3600), (rd_T54 l0 0).f1)) else (none)) else (none)) else (none))) = some (r1, r2, r3, r4) := h
 clear h
 by_cases c3 : (wrap64 (a1 + 1)) < (l0.length : Int)
 ·rw [if_pos c3] at H
  have c3b0 : decide ((wrap64 (a1 + 1)) < (l0.length : Int)) = true := decide_eq_true c3
  clear c3
  by_cases c4 : 0 ≤ a1
  ·rw [if_pos c4] at H
   have c4b0 : decide (0 ≤ a1) = true := decide_eq_true c4
   clear c4
   by_cases c5 : a1 < (l0.length : Int)
   ·rw [if_pos c5] at H
    have c5b0 : decide (a1 < (l0.length : Int)) = true := decide_eq_true c5
    clear c5
    obtain ⟨ji6, hji6⟩ : ∃ j_ : Int, (wrap64 (a1 + 1)) = j_ := ⟨_, rfl⟩
    replace H : (if 0 ≤ (ji6) then (some ((rd_T54 l0 a1).f0, (rd_T54 l0 a1).f1, (rd_T54 l0 (ji6)).f0, (rd_T54 l0 (ji6)).f1)) else (none)) = some (r1, r2, r3, r4) := by first | (rw [hji6] at H; exact H) | (simp only [hji6] at H ⊢; exact H)
    (try rw [hji6] at c3b0)
    have hji6w : (IntKind.i64.wrap (a1 + 1)) = ji6 := (i64_w _).trans hji6
    by_cases c7 : 0 ≤ (ji6)
    ·rw [if_pos c7] at H
     have c7b0 : decide (0 ≤ (ji6)) = true := decide_eq_true c7
     clear c7
     simp only [Option.some.injEq, Prod.mk.injEq] at H
     obtain ⟨rfl, rfl, rfl, rfl⟩ := H
     go_enter Try.func65, Try.ntmps65
     try go_wp2_with (first | ((with_reducible refine gD 4 rfl ?_); refine zx 4 #[.int .i64 0, .int .i64 0] 54 ?_; intro gb189 hg w8 hbox hb; have BK189 := Aside0.mk (hbox); have GW189 := zG w hg; have GE189 := zG w hg; replace HB := zd hb; clear hb hbox hg) | ((with_reducible refine gD 5 rfl ?_); refine zx 5 #[.int .i64 0, .int .i64 0] 54 ?_; intro gb190 hg w9 hbox hb; have BK190 := Aside0.mk (hbox); have GW190 := zG w hg; have GE190 := zG w hg; replace HB := zd hb; have NB189_190 := zN BK189 hg; have NB190_189 := zM BK189 hg; replace BK189 := zk BK189 hb; clear hb hbox hg))
     replace BK189 := Aside0.mk (blk_drew BK189.out)
     replace BK190 := Aside0.mk (blk_drew BK190.out)
     replace HB := Aside0.mk (below_drew1 HB.out)
     have p191 : 0 ≤ (a1 : Int) := zp
     have q191 : a1 < (l0.length : Int) := zp
     obtain ⟨ad191, e191, hx191_0, hx191_1⟩ := at_T54 HR0.out a1 p191 q191
     have hw191_1 := hx191_1
     have hw191_0 := hx191_0
     cases e191
     replace hx191_0 := (HB.out.cell (World.block_lt_of_cell? w _ hx191_0)).trans hx191_0
     replace hx191_1 := (HB.out.cell (World.block_lt_of_cell? w _ hx191_1)).trans hx191_1
     replace p191 := eq_true p191
     replace q191 := eq_true q191
     have p192 : 0 ≤ ((ji6) : Int) := zp
     have q192 : (ji6) < (l0.length : Int) := zp
     obtain ⟨ad192, e192, hx192_0, hx192_1⟩ := at_T54 HR0.out (ji6) p192 q192
     have hw192_1 := hx192_1
     have hw192_0 := hx192_0
     obtain rfl : ad191 = ad192 := (by injection e192)
     replace hx192_0 := (HB.out.cell (World.block_lt_of_cell? w _ hx192_0)).trans hx192_0
     replace hx192_1 := (HB.out.cell (World.block_lt_of_cell? w _ hx192_1)).trans hx192_1
     replace p192 := eq_true p192
     replace q192 := eq_true q192
     refine start_ (n := 11) (S := fun w' => w'.cell? (ad191.add ((a1).toNat * 2)) = some (.int .i64 ((rd_T54 l0 a1).f0)) ∧ w'.cell? ⟨(ad191.add ((a1).toNat * 2)).block, (ad191.add ((a1).toNat * 2)).off + 1, none⟩ = some (.int .i64 ((rd_T54 l0 a1).f1)) ∧ w'.cell? (ad191.add (((ji6)).toNat * 2)) = some (.int .i64 ((rd_T54 l0 (ji6)).f0)) ∧ w'.cell? ⟨(ad191.add (((ji6)).toNat * 2)).block, (ad191.add (((ji6)).toNat * 2)).off + 1, none⟩ = some (.int .i64 ((rd_T54 l0 (ji6)).f1))) (ds := []) #[false, false, false, false, false, false, false, false, false, false, false] (by kernel_rfl) rfl rfl ⟨((HB.out.cell (World.block_lt_of_cell? w _ hw191_0)).trans hw191_0), ((HB.out.cell (World.block_lt_of_cell? w _ hw191_1)).trans hw191_1), ((HB.out.cell (World.block_lt_of_cell? w _ hw192_0)).trans hw192_0), ((HB.out.cell (World.block_lt_of_cell? w _ hw192_1)).trans hw192_1)⟩ (fun hHeld => ?_); refine with_tabW agonicref05_segment.tab2 agonicref05_segment.bits2 (fun HT_ HW_ => ?_)
     generalize w9.drew = w10 at BK189 BK190 HB hx191_0 hx191_1 hx192_0 hx192_1 hHeld ⊢
     refine pq HT_ 0 11 11 1 ?_
     refine pq HT_ 1 12 11 3 ?_
     refine pq HT_ 2 13 11 7 ?_
     refine pq HT_ 4 15 11 23 ?_
     refine pq HT_ 5 16 11 55 ?_
     refine pq HT_ 6 17 11 119 ?_
     refine pq HT_ 7 18 11 247 ?_
     refine take_ (i := 3) (N := some 14) (v := ?_) (a' := ?_) #[true, true, true, true, true, true, true, true, false, false, false] rfl rfl (take_ofW HT_.out HW_.out (by kernel_rfl)) (fun _ _ _ h => h) (Or.inl ⟨by rfl, ?_⟩) hHeld ?_ ?_
     rotate_left
     ·rintro w' ⟨s0, s1, s2, s3⟩
      go_simp
      with_reducible rfl
     rotate_left
     ·simp only [Act.put, List.setIfInBounds_toArray, List.set_cons_zero, List.set_cons_succ, i64_w, i32_w]
      rfl
     refine take_ (i := 8) (N := some 19) (v := ?_) (a' := ?_) #[true, true, true, true, true, true, true, true, true, false, false] rfl rfl (take_ofW HT_.out HW_.out (by kernel_rfl)) (fun _ _ _ h => h) (Or.inl ⟨by rfl, ?_⟩) hHeld ?_ ?_
     rotate_left
     ·rintro w' ⟨s0, s1, s2, s3⟩
      go_simp
      with_reducible rfl
     rotate_left
     ·simp only [Act.put, List.setIfInBounds_toArray, List.set_cons_zero, List.set_cons_succ, i64_w, i32_w]
      rfl
     refine one_ (i := 9) (N := none) #[true, true, true, true, true, true, true, true, true, true, false] rfl rfl (one_of HT_.out (by kernel_rfl)) (by decide) (fun K hK => ?_)
     have hs11 : w10.cell? ⟨gb189, 0, none⟩ = some (.int .i64 0) := zy BK189 0
     have hfs11 := blk_frozen BK189.out 0
     have hns11_1 := NB190_189.out
     have hms11_1 := NB189_190.out
     have hs12 : w10.cell? ⟨gb189, 1, none⟩ = some (.int .i64 0) := zy BK189 1
     have hfs12 := blk_frozen BK189.out 1
     have hns12_1 := NB190_189.out
     have hms12_1 := NB189_190.out
     refine skip_ (w1 := ?_) (by rfl) rfl ?_ ?_
     rotate_left
     ·go_simp
      rfl
     refine hK.out _ _ ⟨((cell_far (p := ⟨gb189, _, none⟩) (by first | exact Nat.ne_of_lt (Nat.lt_of_lt_of_le (zv hw191_0) GW189.out) | (rw [add_block]; exact Nat.ne_of_lt (Nat.lt_of_lt_of_le (zv hw191_0) GW189.out)) | (show (Addr.add _ _).block ≠ _; rw [add_block]; exact Nat.ne_of_lt (Nat.lt_of_lt_of_le (zv hw191_0) GW189.out)) | (dsimp only; exact Nat.ne_of_lt (Nat.lt_of_lt_of_le (zv hw191_0) GW189.out))) _).trans (((cell_far (p := ⟨gb189, _, none⟩) (by first | exact Nat.ne_of_lt (Nat.lt_of_lt_of_le (zv hw191_0) GW189.out) | (rw [add_block]; exact Nat.ne_of_lt (Nat.lt_of_lt_of_le (zv hw191_0) GW189.out)) | (show (Addr.add _ _).block ≠ _; rw [add_block]; exact Nat.ne_of_lt (Nat.lt_of_lt_of_le (zv hw191_0) GW189.out)) | (dsimp only; exact Nat.ne_of_lt (Nat.lt_of_lt_of_le (zv hw191_0) GW189.out))) _).trans (hHeld.1)))), ((cell_far (p := ⟨gb189, _, none⟩) (by first | exact Nat.ne_of_lt (Nat.lt_of_lt_of_le (zv hw191_1) GW189.out) | (rw [add_block]; exact Nat.ne_of_lt (Nat.lt_of_lt_of_le (zv hw191_1) GW189.out)) | (show (Addr.add _ _).block ≠ _; rw [add_block]; exact Nat.ne_of_lt (Nat.lt_of_lt_of_le (zv hw191_1) GW189.out)) | (dsimp only; exact Nat.ne_of_lt (Nat.lt_of_lt_of_le (zv hw191_1) GW189.out))) _).trans (((cell_far (p := ⟨gb189, _, none⟩) (by first | exact Nat.ne_of_lt (Nat.lt_of_lt_of_le (zv hw191_1) GW189.out) | (rw [add_block]; exact Nat.ne_of_lt (Nat.lt_of_lt_of_le (zv hw191_1) GW189.out)) | (show (Addr.add _ _).block ≠ _; rw [add_block]; exact Nat.ne_of_lt (Nat.lt_of_lt_of_le (zv hw191_1) GW189.out)) | (dsimp only; exact Nat.ne_of_lt (Nat.lt_of_lt_of_le (zv hw191_1) GW189.out))) _).trans (hHeld.2.1)))), ((cell_far (p := ⟨gb189, _, none⟩) (by first | exact Nat.ne_of_lt (Nat.lt_of_lt_of_le (zv hw192_0) GW189.out) | (rw [add_block]; exact Nat.ne_of_lt (Nat.lt_of_lt_of_le (zv hw192_0) GW189.out)) | (show (Addr.add _ _).block ≠ _; rw [add_block]; exact Nat.ne_of_lt (Nat.lt_of_lt_of_le (zv hw192_0) GW189.out)) | (dsimp only; exact Nat.ne_of_lt (Nat.lt_of_lt_of_le (zv hw192_0) GW189.out))) _).trans (((cell_far (p := ⟨gb189, _, none⟩) (by first | exact Nat.ne_of_lt (Nat.lt_of_lt_of_le (zv hw192_0) GW189.out) | (rw [add_block]; exact Nat.ne_of_lt (Nat.lt_of_lt_of_le (zv hw192_0) GW189.out)) | (show (Addr.add _ _).block ≠ _; rw [add_block]; exact Nat.ne_of_lt (Nat.lt_of_lt_of_le (zv hw192_0) GW189.out)) | (dsimp only; exact Nat.ne_of_lt (Nat.lt_of_lt_of_le (zv hw192_0) GW189.out))) _).trans (hHeld.2.2.1)))), ((cell_far (p := ⟨gb189, _, none⟩) (by first | exact Nat.ne_of_lt (Nat.lt_of_lt_of_le (zv hw192_1) GW189.out) | (rw [add_block]; exact Nat.ne_of_lt (Nat.lt_of_lt_of_le (zv hw192_1) GW189.out)) | (show (Addr.add _ _).block ≠ _; rw [add_block]; exact Nat.ne_of_lt (Nat.lt_of_lt_of_le (zv hw192_1) GW189.out)) | (dsimp only; exact Nat.ne_of_lt (Nat.lt_of_lt_of_le (zv hw192_1) GW189.out))) _).trans (((cell_far (p := ⟨gb189, _, none⟩) (by first | exact Nat.ne_of_lt (Nat.lt_of_lt_of_le (zv hw192_1) GW189.out) | (rw [add_block]; exact Nat.ne_of_lt (Nat.lt_of_lt_of_le (zv hw192_1) GW189.out)) | (show (Addr.add _ _).block ≠ _; rw [add_block]; exact Nat.ne_of_lt (Nat.lt_of_lt_of_le (zv hw192_1) GW189.out)) | (dsimp only; exact Nat.ne_of_lt (Nat.lt_of_lt_of_le (zv hw192_1) GW189.out))) _).trans (hHeld.2.2.2))))⟩ (fun hHeld => ?_)
     clear hK K
     refine one_ (i := 10) (N := none) #[true, true, true, true, true, true, true, true, true, true, true] rfl rfl (one_of HT_.out (by kernel_rfl)) (by decide) (fun K hK => ?_)
     have hs13 : w10.cell? ⟨gb190, 0, none⟩ = some (.int .i64 0) := zy BK190 0
     have hfs13 := blk_frozen BK190.out 0
     have hns13_0 := NB189_190.out
     have hms13_0 := NB190_189.out
     have hs14 : w10.cell? ⟨gb190, 1, none⟩ = some (.int .i64 0) := zy BK190 1
     have hfs14 := blk_frozen BK190.out 1
     have hns14_0 := NB189_190.out
     have hms14_0 := NB190_189.out
     refine skip_ (w1 := ?_) (by rfl) rfl ?_ ?_
     rotate_left
     ·go_simp
      rfl
     refine hK.out _ _ ⟨((cell_far (p := ⟨gb190, _, none⟩) (by first | exact Nat.ne_of_lt (Nat.lt_of_lt_of_le (zv hw191_0) GW190.out) | (rw [add_block]; exact Nat.ne_of_lt (Nat.lt_of_lt_of_le (zv hw191_0) GW190.out)) | (show (Addr.add _ _).block ≠ _; rw [add_block]; exact Nat.ne_of_lt (Nat.lt_of_lt_of_le (zv hw191_0) GW190.out)) | (dsimp only; exact Nat.ne_of_lt (Nat.lt_of_lt_of_le (zv hw191_0) GW190.out))) _).trans (((cell_far (p := ⟨gb190, _, none⟩) (by first | exact Nat.ne_of_lt (Nat.lt_of_lt_of_le (zv hw191_0) GW190.out) | (rw [add_block]; exact Nat.ne_of_lt (Nat.lt_of_lt_of_le (zv hw191_0) GW190.out)) | (show (Addr.add _ _).block ≠ _; rw [add_block]; exact Nat.ne_of_lt (Nat.lt_of_lt_of_le (zv hw191_0) GW190.out)) | (dsimp only; exact Nat.ne_of_lt (Nat.lt_of_lt_of_le (zv hw191_0) GW190.out))) _).trans (hHeld.1)))), ((cell_far (p := ⟨gb190, _, none⟩) (by first | exact Nat.ne_of_lt (Nat.lt_of_lt_of_le (zv hw191_1) GW190.out) | (rw [add_block]; exact Nat.ne_of_lt (Nat.lt_of_lt_of_le (zv hw191_1) GW190.out)) | (show (Addr.add _ _).block ≠ _; rw [add_block]; exact Nat.ne_of_lt (Nat.lt_of_lt_of_le (zv hw191_1) GW190.out)) | (dsimp only; exact Nat.ne_of_lt (Nat.lt_of_lt_of_le (zv hw191_1) GW190.out))) _).trans (((cell_far (p := ⟨gb190, _, none⟩) (by first | exact Nat.ne_of_lt (Nat.lt_of_lt_of_le (zv hw191_1) GW190.out) | (rw [add_block]; exact Nat.ne_of_lt (Nat.lt_of_lt_of_le (zv hw191_1) GW190.out)) | (show (Addr.add _ _).block ≠ _; rw [add_block]; exact Nat.ne_of_lt (Nat.lt_of_lt_of_le (zv hw191_1) GW190.out)) | (dsimp only; exact Nat.ne_of_lt (Nat.lt_of_lt_of_le (zv hw191_1) GW190.out))) _).trans (hHeld.2.1)))), ((cell_far (p := ⟨gb190, _, none⟩) (by first | exact Nat.ne_of_lt (Nat.lt_of_lt_of_le (zv hw192_0) GW190.out) | (rw [add_block]; exact Nat.ne_of_lt (Nat.lt_of_lt_of_le (zv hw192_0) GW190.out)) | (show (Addr.add _ _).block ≠ _; rw [add_block]; exact Nat.ne_of_lt (Nat.lt_of_lt_of_le (zv hw192_0) GW190.out)) | (dsimp only; exact Nat.ne_of_lt (Nat.lt_of_lt_of_le (zv hw192_0) GW190.out))) _).trans (((cell_far (p := ⟨gb190, _, none⟩) (by first | exact Nat.ne_of_lt (Nat.lt_of_lt_of_le (zv hw192_0) GW190.out) | (rw [add_block]; exact Nat.ne_of_lt (Nat.lt_of_lt_of_le (zv hw192_0) GW190.out)) | (show (Addr.add _ _).block ≠ _; rw [add_block]; exact Nat.ne_of_lt (Nat.lt_of_lt_of_le (zv hw192_0) GW190.out)) | (dsimp only; exact Nat.ne_of_lt (Nat.lt_of_lt_of_le (zv hw192_0) GW190.out))) _).trans (hHeld.2.2.1)))), ((cell_far (p := ⟨gb190, _, none⟩) (by first | exact Nat.ne_of_lt (Nat.lt_of_lt_of_le (zv hw192_1) GW190.out) | (rw [add_block]; exact Nat.ne_of_lt (Nat.lt_of_lt_of_le (zv hw192_1) GW190.out)) | (show (Addr.add _ _).block ≠ _; rw [add_block]; exact Nat.ne_of_lt (Nat.lt_of_lt_of_le (zv hw192_1) GW190.out)) | (dsimp only; exact Nat.ne_of_lt (Nat.lt_of_lt_of_le (zv hw192_1) GW190.out))) _).trans (((cell_far (p := ⟨gb190, _, none⟩) (by first | exact Nat.ne_of_lt (Nat.lt_of_lt_of_le (zv hw192_1) GW190.out) | (rw [add_block]; exact Nat.ne_of_lt (Nat.lt_of_lt_of_le (zv hw192_1) GW190.out)) | (show (Addr.add _ _).block ≠ _; rw [add_block]; exact Nat.ne_of_lt (Nat.lt_of_lt_of_le (zv hw192_1) GW190.out)) | (dsimp only; exact Nat.ne_of_lt (Nat.lt_of_lt_of_le (zv hw192_1) GW190.out))) _).trans (hHeld.2.2.2))))⟩ (fun hHeld => ?_)
     clear hK K
     refine done_ (done_of HT_.out (by kernel_rfl)) ?_
     try go_wp2
     refine bodyPost_ret (results_cc rfl _ _ gb189 gb190 54 54 #[.int .i64 ((rd_T54 l0 a1).f0), .int .i64 ((rd_T54 l0 a1).f1)] #[.int .i64 ((rd_T54 l0 (ji6)).f0), .int .i64 ((rd_T54 l0 (ji6)).f1)] (0, 0) (0, 0) _ _ rfl (by refine zm ?_; refine blk_far ?_ NB189_190.out _; refine zm ?_; refine blk_far ?_ NB189_190.out _; refine zm ?_; refine blk_put (cs := #[.int .i64 ((rd_T54 l0 a1).f0), .int .i64 0]) ?_ 1 _ rfl; refine zm ?_; refine blk_put (cs := #[.int .i64 0, .int .i64 0]) ?_ 0 _ rfl; refine zm ?_; exact BK189.out) Try.underlying54 rfl (by kernel_rfl) rfl (by refine zm ?_; refine blk_put (cs := #[.int .i64 ((rd_T54 l0 (ji6)).f0), .int .i64 0]) ?_ 1 _ rfl; refine zm ?_; refine blk_put (cs := #[.int .i64 0, .int .i64 0]) ?_ 0 _ rfl; refine zm ?_; refine blk_far ?_ NB190_189.out _; refine zm ?_; refine blk_far ?_ NB190_189.out _; refine zm ?_; exact BK190.out) Try.underlying54 rfl (by kernel_rfl)) rfl ?_
     exact ⟨by first | rfl | (simp [errW_none, errW_some] <;> rfl) | (simp only [← hji6]; first | rfl | (simp [errW_none, errW_some] <;> rfl)) | (simp [*, errW_none, errW_some] <;> rfl), zh⟩
    ·rw [if_neg c7] at H
     exact absurd H (by simp)
   ·rw [if_neg c5] at H
    exact absurd H (by simp)
  ·rw [if_neg c4] at H
   exact absurd H (by simp)
 ·rw [if_neg c3] at H
  have c3b0 : decide ((wrap64 (a1 + 1)) < (l0.length : Int)) = false := decide_eq_false c3
  clear c3
  by_cases c15 : 0 ≤ a1
  ·rw [if_pos c15] at H
   have c15b0 : decide (0 ≤ a1) = true := decide_eq_true c15
   clear c15
   by_cases c16 : a1 < (l0.length : Int)
   ·rw [if_pos c16] at H
    have c16b0 : decide (a1 < (l0.length : Int)) = true := decide_eq_true c16
    clear c16
    by_cases c17 : 0 < (l0.length : Int)
    ·rw [if_pos c17] at H
     have c17b0 : decide (0 < (l0.length : Int)) = true := decide_eq_true c17
     have c17b1 : decide (0 < l0.length) = true := decide_eq_true (by omega)
     clear c17
     simp only [Option.some.injEq, Prod.mk.injEq] at H
     obtain ⟨rfl, rfl, rfl, rfl⟩ := H
     go_enter Try.func65, Try.ntmps65
     try go_wp2_with (first | ((with_reducible refine gD 4 rfl ?_); refine zx 4 #[.int .i64 0, .int .i64 0] 54 ?_; intro gb189 hg w18 hbox hb; have BK189 := Aside0.mk (hbox); have GW189 := zG w hg; have GE189 := zG w hg; replace HB := zd hb; clear hb hbox hg) | ((with_reducible refine gD 5 rfl ?_); refine zx 5 #[.int .i64 0, .int .i64 0] 54 ?_; intro gb190 hg w19 hbox hb; have BK190 := Aside0.mk (hbox); have GW190 := zG w hg; have GE190 := zG w hg; replace HB := zd hb; have NB189_190 := zN BK189 hg; have NB190_189 := zM BK189 hg; replace BK189 := zk BK189 hb; clear hb hbox hg))
     replace BK189 := Aside0.mk (blk_drew BK189.out)
     replace BK190 := Aside0.mk (blk_drew BK190.out)
     replace HB := Aside0.mk (below_drew1 HB.out)
     have p193 : 0 ≤ (a1 : Int) := zp
     have q193 : a1 < (l0.length : Int) := zp
     obtain ⟨ad193, e193, hx193_0, hx193_1⟩ := at_T54 HR0.out a1 p193 q193
     have hw193_1 := hx193_1
     have hw193_0 := hx193_0
     cases e193
     replace hx193_0 := (HB.out.cell (World.block_lt_of_cell? w _ hx193_0)).trans hx193_0
     replace hx193_1 := (HB.out.cell (World.block_lt_of_cell? w _ hx193_1)).trans hx193_1
     replace p193 := eq_true p193
     replace q193 := eq_true q193
     have p194 : 0 ≤ (0 : Int) := (by omega)
     have q194 : 0 < (l0.length : Int) := zp
     obtain ⟨ad194, e194, hx194_0, hx194_1⟩ := at_T54 HR0.out 0 p194 q194
     have hw194_1 := hx194_1
     (try rw [show ((0 : Int)).toNat = 0 from rfl] at hw194_1)
     (try rw [show 0 * 2 = 0 from rfl] at hw194_1)
     (try rw [Addr.add_zero'] at hw194_1)
     have hw194_0 := hx194_0
     (try rw [show ((0 : Int)).toNat = 0 from rfl] at hw194_0)
     (try rw [show 0 * 2 = 0 from rfl] at hw194_0)
     (try rw [Addr.add_zero'] at hw194_0)
     obtain rfl : ad193 = ad194 := (by injection e194)
     have qi194 : (0 < l0.length) = True := eq_true (by omega)
     (try rw [show ((0 : Int)).toNat = 0 from rfl] at hx194_0)
     (try rw [show 0 * 2 = 0 from rfl] at hx194_0)
     (try rw [Addr.add_zero'] at hx194_0)
     (try rw [show ((0 : Int)).toNat = 0 from rfl] at hx194_1)
     (try rw [show 0 * 2 = 0 from rfl] at hx194_1)
     (try rw [Addr.add_zero'] at hx194_1)
     replace hx194_0 := (HB.out.cell (World.block_lt_of_cell? w _ hx194_0)).trans hx194_0
     replace hx194_1 := (HB.out.cell (World.block_lt_of_cell? w _ hx194_1)).trans hx194_1
     replace p194 := eq_true p194
     replace q194 := eq_true q194
     have p195 : 0 ≤ (0 : Int) := (by omega)
     have q195 : 0 < (l0.length : Int) := zp
     obtain ⟨ad195, e195, hx195_0, hx195_1⟩ := at_T54 HR0.out 0 p195 q195
     have hw195_1 := hx195_1
     (try rw [show ((0 : Int)).toNat = 0 from rfl] at hw195_1)
     (try rw [show 0 * 2 = 0 from rfl] at hw195_1)
     (try rw [Addr.add_zero'] at hw195_1)
     have hw195_0 := hx195_0
     (try rw [show ((0 : Int)).toNat = 0 from rfl] at hw195_0)
     (try rw [show 0 * 2 = 0 from rfl] at hw195_0)
     (try rw [Addr.add_zero'] at hw195_0)
     obtain rfl : ad193 = ad195 := (by injection e195)
     have qi195 : (0 < l0.length) = True := eq_true (by omega)
     (try rw [show ((0 : Int)).toNat = 0 from rfl] at hx195_0)
     (try rw [show 0 * 2 = 0 from rfl] at hx195_0)
     (try rw [Addr.add_zero'] at hx195_0)
     (try rw [show ((0 : Int)).toNat = 0 from rfl] at hx195_1)
     (try rw [show 0 * 2 = 0 from rfl] at hx195_1)
     (try rw [Addr.add_zero'] at hx195_1)
     replace hx195_0 := (HB.out.cell (World.block_lt_of_cell? w _ hx195_0)).trans hx195_0
     replace hx195_1 := (HB.out.cell (World.block_lt_of_cell? w _ hx195_1)).trans hx195_1
     replace p195 := eq_true p195
     replace q195 := eq_true q195
     refine start_ (n := 16) (S := fun w' => w'.cell? (ad193.add ((a1).toNat * 2)) = some (.int .i64 ((rd_T54 l0 a1).f0)) ∧ w'.cell? ⟨(ad193.add ((a1).toNat * 2)).block, (ad193.add ((a1).toNat * 2)).off + 1, none⟩ = some (.int .i64 ((rd_T54 l0 a1).f1)) ∧ w'.cell? ad193 = some (.int .i64 ((rd_T54 l0 0).f0)) ∧ w'.cell? ⟨ad193.block, ad193.off + 1, none⟩ = some (.int .i64 ((rd_T54 l0 0).f1)) ∧ w'.cell? ad193 = some (.int .i64 ((rd_T54 l0 0).f0)) ∧ w'.cell? ⟨ad193.block, ad193.off + 1, none⟩ = some (.int .i64 ((rd_T54 l0 0).f1))) (ds := []) #[false, false, false, false, false, false, false, false, false, false, false, false, false, false, false, false] (by kernel_rfl) rfl rfl ⟨((HB.out.cell (World.block_lt_of_cell? w _ hw193_0)).trans hw193_0), ((HB.out.cell (World.block_lt_of_cell? w _ hw193_1)).trans hw193_1), ((HB.out.cell (World.block_lt_of_cell? w _ hw194_0)).trans hw194_0), ((HB.out.cell (World.block_lt_of_cell? w _ hw194_1)).trans hw194_1), ((HB.out.cell (World.block_lt_of_cell? w _ hw195_0)).trans hw195_0), ((HB.out.cell (World.block_lt_of_cell? w _ hw195_1)).trans hw195_1)⟩ (fun hHeld => ?_); refine with_tabW agonicref05_segment.tab3 agonicref05_segment.bits3 (fun HT_ HW_ => ?_)
     generalize w19.drew = w20 at BK189 BK190 HB hx193_0 hx193_1 hx194_0 hx194_1 hx195_0 hx195_1 hHeld ⊢
     refine pq HT_ 0 20 16 1 ?_
     refine pq HT_ 1 21 16 3 ?_
     refine pq HT_ 2 22 16 7 ?_
     refine pq HT_ 4 24 16 23 ?_
     refine pq HT_ 5 25 16 55 ?_
     refine pq HT_ 6 26 16 119 ?_
     refine pq HT_ 9 29 16 631 ?_
     refine pq HT_ 10 30 16 1655 ?_
     refine pq HT_ 11 31 16 3703 ?_
     refine take_ (i := 3) (N := some 23) (v := ?_) (a' := ?_) #[true, true, true, true, true, true, true, false, false, true, true, true, false, false, false, false] rfl rfl (take_ofW HT_.out HW_.out (by kernel_rfl)) (fun _ _ _ h => h) (Or.inl ⟨by rfl, ?_⟩) hHeld ?_ ?_
     rotate_left
     ·rintro w' ⟨s0, s1, s2, s3, s4, s5⟩
      go_simp
      with_reducible rfl
     rotate_left
     ·simp only [Act.put, List.setIfInBounds_toArray, List.set_cons_zero, List.set_cons_succ, i64_w, i32_w]
      rfl
     refine take_ (i := 7) (N := some 27) (v := ?_) (a' := ?_) #[true, true, true, true, true, true, true, true, false, true, true, true, false, false, false, false] rfl rfl (take_ofW HT_.out HW_.out (by kernel_rfl)) (fun _ _ _ h => h) (Or.inl ⟨by rfl, ?_⟩) hHeld ?_ ?_
     rotate_left
     ·rintro w' ⟨s0, s1, s2, s3, s4, s5⟩
      go_simp
      with_reducible rfl
     rotate_left
     ·simp only [Act.put, List.setIfInBounds_toArray, List.set_cons_zero, List.set_cons_succ, i64_w, i32_w]
      rfl
     refine pq HT_ 8 28 16 4095 ?_
     refine take_ (i := 12) (N := some 32) (v := ?_) (a' := ?_) #[true, true, true, true, true, true, true, true, true, true, true, true, true, false, false, false] rfl rfl (take_ofW HT_.out HW_.out (by kernel_rfl)) (fun _ _ _ h => h) (Or.inl ⟨by rfl, ?_⟩) hHeld ?_ ?_
     rotate_left
     ·rintro w' ⟨s0, s1, s2, s3, s4, s5⟩
      go_simp
      with_reducible rfl
     rotate_left
     ·simp only [Act.put, List.setIfInBounds_toArray, List.set_cons_zero, List.set_cons_succ, i64_w, i32_w]
      rfl
     refine pq HT_ 13 33 16 16383 ?_
     refine one_ (i := 14) (N := none) #[true, true, true, true, true, true, true, true, true, true, true, true, true, true, true, false] rfl rfl (one_of HT_.out (by kernel_rfl)) (by decide) (fun K hK => ?_)
     have hs21 : w20.cell? ⟨gb189, 0, none⟩ = some (.int .i64 0) := zy BK189 0
     have hfs21 := blk_frozen BK189.out 0
     have hns21_1 := NB190_189.out
     have hms21_1 := NB189_190.out
     have hs22 : w20.cell? ⟨gb189, 1, none⟩ = some (.int .i64 0) := zy BK189 1
     have hfs22 := blk_frozen BK189.out 1
     have hns22_1 := NB190_189.out
     have hms22_1 := NB189_190.out
     refine skip_ (w1 := ?_) (by rfl) rfl ?_ ?_
     rotate_left
     ·go_simp
      rfl
     refine hK.out _ _ ⟨((cell_far (p := ⟨gb189, _, none⟩) (by first | exact Nat.ne_of_lt (Nat.lt_of_lt_of_le (zv hw193_0) GW189.out) | (rw [add_block]; exact Nat.ne_of_lt (Nat.lt_of_lt_of_le (zv hw193_0) GW189.out)) | (show (Addr.add _ _).block ≠ _; rw [add_block]; exact Nat.ne_of_lt (Nat.lt_of_lt_of_le (zv hw193_0) GW189.out)) | (dsimp only; exact Nat.ne_of_lt (Nat.lt_of_lt_of_le (zv hw193_0) GW189.out))) _).trans (((cell_far (p := ⟨gb189, _, none⟩) (by first | exact Nat.ne_of_lt (Nat.lt_of_lt_of_le (zv hw193_0) GW189.out) | (rw [add_block]; exact Nat.ne_of_lt (Nat.lt_of_lt_of_le (zv hw193_0) GW189.out)) | (show (Addr.add _ _).block ≠ _; rw [add_block]; exact Nat.ne_of_lt (Nat.lt_of_lt_of_le (zv hw193_0) GW189.out)) | (dsimp only; exact Nat.ne_of_lt (Nat.lt_of_lt_of_le (zv hw193_0) GW189.out))) _).trans (hHeld.1)))), ((cell_far (p := ⟨gb189, _, none⟩) (by first | exact Nat.ne_of_lt (Nat.lt_of_lt_of_le (zv hw193_1) GW189.out) | (rw [add_block]; exact Nat.ne_of_lt (Nat.lt_of_lt_of_le (zv hw193_1) GW189.out)) | (show (Addr.add _ _).block ≠ _; rw [add_block]; exact Nat.ne_of_lt (Nat.lt_of_lt_of_le (zv hw193_1) GW189.out)) | (dsimp only; exact Nat.ne_of_lt (Nat.lt_of_lt_of_le (zv hw193_1) GW189.out))) _).trans (((cell_far (p := ⟨gb189, _, none⟩) (by first | exact Nat.ne_of_lt (Nat.lt_of_lt_of_le (zv hw193_1) GW189.out) | (rw [add_block]; exact Nat.ne_of_lt (Nat.lt_of_lt_of_le (zv hw193_1) GW189.out)) | (show (Addr.add _ _).block ≠ _; rw [add_block]; exact Nat.ne_of_lt (Nat.lt_of_lt_of_le (zv hw193_1) GW189.out)) | (dsimp only; exact Nat.ne_of_lt (Nat.lt_of_lt_of_le (zv hw193_1) GW189.out))) _).trans (hHeld.2.1)))), ((cell_far (p := ⟨gb189, _, none⟩) (by first | exact Nat.ne_of_lt (Nat.lt_of_lt_of_le (zv hw194_0) GW189.out) | (rw [add_block]; exact Nat.ne_of_lt (Nat.lt_of_lt_of_le (zv hw194_0) GW189.out)) | (show (Addr.add _ _).block ≠ _; rw [add_block]; exact Nat.ne_of_lt (Nat.lt_of_lt_of_le (zv hw194_0) GW189.out)) | (dsimp only; exact Nat.ne_of_lt (Nat.lt_of_lt_of_le (zv hw194_0) GW189.out))) _).trans (((cell_far (p := ⟨gb189, _, none⟩) (by first | exact Nat.ne_of_lt (Nat.lt_of_lt_of_le (zv hw194_0) GW189.out) | (rw [add_block]; exact Nat.ne_of_lt (Nat.lt_of_lt_of_le (zv hw194_0) GW189.out)) | (show (Addr.add _ _).block ≠ _; rw [add_block]; exact Nat.ne_of_lt (Nat.lt_of_lt_of_le (zv hw194_0) GW189.out)) | (dsimp only; exact Nat.ne_of_lt (Nat.lt_of_lt_of_le (zv hw194_0) GW189.out))) _).trans (hHeld.2.2.1)))), ((cell_far (p := ⟨gb189, _, none⟩) (by first | exact Nat.ne_of_lt (Nat.lt_of_lt_of_le (zv hw194_1) GW189.out) | (rw [add_block]; exact Nat.ne_of_lt (Nat.lt_of_lt_of_le (zv hw194_1) GW189.out)) | (show (Addr.add _ _).block ≠ _; rw [add_block]; exact Nat.ne_of_lt (Nat.lt_of_lt_of_le (zv hw194_1) GW189.out)) | (dsimp only; exact Nat.ne_of_lt (Nat.lt_of_lt_of_le (zv hw194_1) GW189.out))) _).trans (((cell_far (p := ⟨gb189, _, none⟩) (by first | exact Nat.ne_of_lt (Nat.lt_of_lt_of_le (zv hw194_1) GW189.out) | (rw [add_block]; exact Nat.ne_of_lt (Nat.lt_of_lt_of_le (zv hw194_1) GW189.out)) | (show (Addr.add _ _).block ≠ _; rw [add_block]; exact Nat.ne_of_lt (Nat.lt_of_lt_of_le (zv hw194_1) GW189.out)) | (dsimp only; exact Nat.ne_of_lt (Nat.lt_of_lt_of_le (zv hw194_1) GW189.out))) _).trans (hHeld.2.2.2.1)))), ((cell_far (p := ⟨gb189, _, none⟩) (by first | exact Nat.ne_of_lt (Nat.lt_of_lt_of_le (zv hw195_0) GW189.out) | (rw [add_block]; exact Nat.ne_of_lt (Nat.lt_of_lt_of_le (zv hw195_0) GW189.out)) | (show (Addr.add _ _).block ≠ _; rw [add_block]; exact Nat.ne_of_lt (Nat.lt_of_lt_of_le (zv hw195_0) GW189.out)) | (dsimp only; exact Nat.ne_of_lt (Nat.lt_of_lt_of_le (zv hw195_0) GW189.out))) _).trans (((cell_far (p := ⟨gb189, _, none⟩) (by first | exact Nat.ne_of_lt (Nat.lt_of_lt_of_le (zv hw195_0) GW189.out) | (rw [add_block]; exact Nat.ne_of_lt (Nat.lt_of_lt_of_le (zv hw195_0) GW189.out)) | (show (Addr.add _ _).block ≠ _; rw [add_block]; exact Nat.ne_of_lt (Nat.lt_of_lt_of_le (zv hw195_0) GW189.out)) | (dsimp only; exact Nat.ne_of_lt (Nat.lt_of_lt_of_le (zv hw195_0) GW189.out))) _).trans (hHeld.2.2.2.2.1)))), ((cell_far (p := ⟨gb189, _, none⟩) (by first | exact Nat.ne_of_lt (Nat.lt_of_lt_of_le (zv hw195_1) GW189.out) | (rw [add_block]; exact Nat.ne_of_lt (Nat.lt_of_lt_of_le (zv hw195_1) GW189.out)) | (show (Addr.add _ _).block ≠ _; rw [add_block]; exact Nat.ne_of_lt (Nat.lt_of_lt_of_le (zv hw195_1) GW189.out)) | (dsimp only; exact Nat.ne_of_lt (Nat.lt_of_lt_of_le (zv hw195_1) GW189.out))) _).trans (((cell_far (p := ⟨gb189, _, none⟩) (by first | exact Nat.ne_of_lt (Nat.lt_of_lt_of_le (zv hw195_1) GW189.out) | (rw [add_block]; exact Nat.ne_of_lt (Nat.lt_of_lt_of_le (zv hw195_1) GW189.out)) | (show (Addr.add _ _).block ≠ _; rw [add_block]; exact Nat.ne_of_lt (Nat.lt_of_lt_of_le (zv hw195_1) GW189.out)) | (dsimp only; exact Nat.ne_of_lt (Nat.lt_of_lt_of_le (zv hw195_1) GW189.out))) _).trans (hHeld.2.2.2.2.2))))⟩ (fun hHeld => ?_)
     clear hK K
     refine one_ (i := 15) (N := none) #[true, true, true, true, true, true, true, true, true, true, true, true, true, true, true, true] rfl rfl (one_of HT_.out (by kernel_rfl)) (by decide) (fun K hK => ?_)
     have hs23 : w20.cell? ⟨gb190, 0, none⟩ = some (.int .i64 0) := zy BK190 0
     have hfs23 := blk_frozen BK190.out 0
     have hns23_0 := NB189_190.out
     have hms23_0 := NB190_189.out
     have hs24 : w20.cell? ⟨gb190, 1, none⟩ = some (.int .i64 0) := zy BK190 1
     have hfs24 := blk_frozen BK190.out 1
     have hns24_0 := NB189_190.out
     have hms24_0 := NB190_189.out
     refine skip_ (w1 := ?_) (by rfl) rfl ?_ ?_
     rotate_left
     ·go_simp
      rfl
     refine hK.out _ _ ⟨((cell_far (p := ⟨gb190, _, none⟩) (by first | exact Nat.ne_of_lt (Nat.lt_of_lt_of_le (zv hw193_0) GW190.out) | (rw [add_block]; exact Nat.ne_of_lt (Nat.lt_of_lt_of_le (zv hw193_0) GW190.out)) | (show (Addr.add _ _).block ≠ _; rw [add_block]; exact Nat.ne_of_lt (Nat.lt_of_lt_of_le (zv hw193_0) GW190.out)) | (dsimp only; exact Nat.ne_of_lt (Nat.lt_of_lt_of_le (zv hw193_0) GW190.out))) _).trans (((cell_far (p := ⟨gb190, _, none⟩) (by first | exact Nat.ne_of_lt (Nat.lt_of_lt_of_le (zv hw193_0) GW190.out) | (rw [add_block]; exact Nat.ne_of_lt (Nat.lt_of_lt_of_le (zv hw193_0) GW190.out)) | (show (Addr.add _ _).block ≠ _; rw [add_block]; exact Nat.ne_of_lt (Nat.lt_of_lt_of_le (zv hw193_0) GW190.out)) | (dsimp only; exact Nat.ne_of_lt (Nat.lt_of_lt_of_le (zv hw193_0) GW190.out))) _).trans (hHeld.1)))), ((cell_far (p := ⟨gb190, _, none⟩) (by first | exact Nat.ne_of_lt (Nat.lt_of_lt_of_le (zv hw193_1) GW190.out) | (rw [add_block]; exact Nat.ne_of_lt (Nat.lt_of_lt_of_le (zv hw193_1) GW190.out)) | (show (Addr.add _ _).block ≠ _; rw [add_block]; exact Nat.ne_of_lt (Nat.lt_of_lt_of_le (zv hw193_1) GW190.out)) | (dsimp only; exact Nat.ne_of_lt (Nat.lt_of_lt_of_le (zv hw193_1) GW190.out))) _).trans (((cell_far (p := ⟨gb190, _, none⟩) (by first | exact Nat.ne_of_lt (Nat.lt_of_lt_of_le (zv hw193_1) GW190.out) | (rw [add_block]; exact Nat.ne_of_lt (Nat.lt_of_lt_of_le (zv hw193_1) GW190.out)) | (show (Addr.add _ _).block ≠ _; rw [add_block]; exact Nat.ne_of_lt (Nat.lt_of_lt_of_le (zv hw193_1) GW190.out)) | (dsimp only; exact Nat.ne_of_lt (Nat.lt_of_lt_of_le (zv hw193_1) GW190.out))) _).trans (hHeld.2.1)))), ((cell_far (p := ⟨gb190, _, none⟩) (by first | exact Nat.ne_of_lt (Nat.lt_of_lt_of_le (zv hw194_0) GW190.out) | (rw [add_block]; exact Nat.ne_of_lt (Nat.lt_of_lt_of_le (zv hw194_0) GW190.out)) | (show (Addr.add _ _).block ≠ _; rw [add_block]; exact Nat.ne_of_lt (Nat.lt_of_lt_of_le (zv hw194_0) GW190.out)) | (dsimp only; exact Nat.ne_of_lt (Nat.lt_of_lt_of_le (zv hw194_0) GW190.out))) _).trans (((cell_far (p := ⟨gb190, _, none⟩) (by first | exact Nat.ne_of_lt (Nat.lt_of_lt_of_le (zv hw194_0) GW190.out) | (rw [add_block]; exact Nat.ne_of_lt (Nat.lt_of_lt_of_le (zv hw194_0) GW190.out)) | (show (Addr.add _ _).block ≠ _; rw [add_block]; exact Nat.ne_of_lt (Nat.lt_of_lt_of_le (zv hw194_0) GW190.out)) | (dsimp only; exact Nat.ne_of_lt (Nat.lt_of_lt_of_le (zv hw194_0) GW190.out))) _).trans (hHeld.2.2.1)))), ((cell_far (p := ⟨gb190, _, none⟩) (by first | exact Nat.ne_of_lt (Nat.lt_of_lt_of_le (zv hw194_1) GW190.out) | (rw [add_block]; exact Nat.ne_of_lt (Nat.lt_of_lt_of_le (zv hw194_1) GW190.out)) | (show (Addr.add _ _).block ≠ _; rw [add_block]; exact Nat.ne_of_lt (Nat.lt_of_lt_of_le (zv hw194_1) GW190.out)) | (dsimp only; exact Nat.ne_of_lt (Nat.lt_of_lt_of_le (zv hw194_1) GW190.out))) _).trans (((cell_far (p := ⟨gb190, _, none⟩) (by first | exact Nat.ne_of_lt (Nat.lt_of_lt_of_le (zv hw194_1) GW190.out) | (rw [add_block]; exact Nat.ne_of_lt (Nat.lt_of_lt_of_le (zv hw194_1) GW190.out)) | (show (Addr.add _ _).block ≠ _; rw [add_block]; exact Nat.ne_of_lt (Nat.lt_of_lt_of_le (zv hw194_1) GW190.out)) | (dsimp only; exact Nat.ne_of_lt (Nat.lt_of_lt_of_le (zv hw194_1) GW190.out))) _).trans (hHeld.2.2.2.1)))), ((cell_far (p := ⟨gb190, _, none⟩) (by first | exact Nat.ne_of_lt (Nat.lt_of_lt_of_le (zv hw195_0) GW190.out) | (rw [add_block]; exact Nat.ne_of_lt (Nat.lt_of_lt_of_le (zv hw195_0) GW190.out)) | (show (Addr.add _ _).block ≠ _; rw [add_block]; exact Nat.ne_of_lt (Nat.lt_of_lt_of_le (zv hw195_0) GW190.out)) | (dsimp only; exact Nat.ne_of_lt (Nat.lt_of_lt_of_le (zv hw195_0) GW190.out))) _).trans (((cell_far (p := ⟨gb190, _, none⟩) (by first | exact Nat.ne_of_lt (Nat.lt_of_lt_of_le (zv hw195_0) GW190.out) | (rw [add_block]; exact Nat.ne_of_lt (Nat.lt_of_lt_of_le (zv hw195_0) GW190.out)) | (show (Addr.add _ _).block ≠ _; rw [add_block]; exact Nat.ne_of_lt (Nat.lt_of_lt_of_le (zv hw195_0) GW190.out)) | (dsimp only; exact Nat.ne_of_lt (Nat.lt_of_lt_of_le (zv hw195_0) GW190.out))) _).trans (hHeld.2.2.2.2.1)))), ((cell_far (p := ⟨gb190, _, none⟩) (by first | exact Nat.ne_of_lt (Nat.lt_of_lt_of_le (zv hw195_1) GW190.out) | (rw [add_block]; exact Nat.ne_of_lt (Nat.lt_of_lt_of_le (zv hw195_1) GW190.out)) | (show (Addr.add _ _).block ≠ _; rw [add_block]; exact Nat.ne_of_lt (Nat.lt_of_lt_of_le (zv hw195_1) GW190.out)) | (dsimp only; exact Nat.ne_of_lt (Nat.lt_of_lt_of_le (zv hw195_1) GW190.out))) _).trans (((cell_far (p := ⟨gb190, _, none⟩) (by first | exact Nat.ne_of_lt (Nat.lt_of_lt_of_le (zv hw195_1) GW190.out) | (rw [add_block]; exact Nat.ne_of_lt (Nat.lt_of_lt_of_le (zv hw195_1) GW190.out)) | (show (Addr.add _ _).block ≠ _; rw [add_block]; exact Nat.ne_of_lt (Nat.lt_of_lt_of_le (zv hw195_1) GW190.out)) | (dsimp only; exact Nat.ne_of_lt (Nat.lt_of_lt_of_le (zv hw195_1) GW190.out))) _).trans (hHeld.2.2.2.2.2))))⟩ (fun hHeld => ?_)
     clear hK K
     refine done_ (done_of HT_.out (by kernel_rfl)) ?_
     try go_wp2
     refine bodyPost_ret (results_cc rfl _ _ gb189 gb190 54 54 #[.int .i64 ((rd_T54 l0 a1).f0), .int .i64 ((rd_T54 l0 a1).f1)] #[.int .i64 (wrap64 (((rd_T54 l0 0).f0) + 3600)), .int .i64 ((rd_T54 l0 0).f1)] (0, 0) (0, 0) _ _ rfl (by refine zm ?_; refine blk_far ?_ NB189_190.out _; refine zm ?_; refine blk_far ?_ NB189_190.out _; refine zm ?_; refine blk_put (cs := #[.int .i64 ((rd_T54 l0 a1).f0), .int .i64 0]) ?_ 1 _ rfl; refine zm ?_; refine blk_put (cs := #[.int .i64 0, .int .i64 0]) ?_ 0 _ rfl; refine zm ?_; exact BK189.out) Try.underlying54 rfl (by kernel_rfl) rfl (by refine zm ?_; refine blk_put (cs := #[.int .i64 (wrap64 (((rd_T54 l0 0).f0) + 3600)), .int .i64 0]) ?_ 1 _ rfl; refine zm ?_; refine blk_put (cs := #[.int .i64 0, .int .i64 0]) ?_ 0 _ rfl; refine zm ?_; refine blk_far ?_ NB190_189.out _; refine zm ?_; refine blk_far ?_ NB190_189.out _; refine zm ?_; exact BK190.out) Try.underlying54 rfl (by kernel_rfl)) rfl ?_
     exact ⟨ze, zh⟩
    ·rw [if_neg c17] at H
     exact absurd H (by simp)
   ·rw [if_neg c16] at H
    exact absurd H (by simp)
  ·rw [if_neg c15] at H
   exact absurd H (by simp)
def agonicref01_Divisor.l0 : Nat → Int → Int → Option (Int)
 | 0, _, _ => none
 | k + 1, x0, x1 => if x1 > 0 then (if x1 = 0 then (none) else (agonicref01_Divisor.l0 k x1 (Int.tmod x0 x1))) else (some x0)
def agonicref01_Divisor.f (k : Nat) (a0 : Int) (a1 : Int) : Option (Int) := agonicref01_Divisor.l0 k (mx a0 (wrap64 (-a0))) (mx a1 (wrap64 (-a1)))
set_option maxHeartbeats 8000000 in
set_option maxRecDepth 100000 in
theorem agonicref01_Divisor.calls (k : Nat) (a0 : Int) (a1 : Int) (r : Int) (w : World) (h : agonicref01_Divisor.f k a0 a1 = some r) :
  Calls Try.prog 92 #[.int .i64 a0, .int .i64 a1] w fun e w' => e = .returned (.int .i64 r) ∧ Below w.heap.size w w' := by
 have HB := Aside0.mk (Below.refl w.heap.size w)
 have H : (agonicref01_Divisor.l0 k (mx a0 (wrap64 (-a0))) (mx a1 (wrap64 (-a1)))) = some r := h
 clear h
 obtain ⟨ji3, hji3⟩ : ∃ j_ : Int, (mx a0 (wrap64 (-a0))) = j_ := ⟨_, rfl⟩
 replace H : (agonicref01_Divisor.l0 k ji3 (mx a1 (wrap64 (-a1)))) = some r := by first | (rw [hji3] at H; exact H) | (simp only [hji3] at H ⊢; exact H)
 have hji3_ : (if a0 < (wrap64 (-a0)) then (wrap64 (-a0)) else a0) = ji3 := hji3
 obtain ⟨ji4, hji4⟩ : ∃ j_ : Int, (mx a1 (wrap64 (-a1))) = j_ := ⟨_, rfl⟩
 replace H : (agonicref01_Divisor.l0 k ji3 ji4) = some r := by first | (rw [hji4] at H; exact H) | (simp only [hji4] at H ⊢; exact H)
 have hji4_ : (if a1 < (wrap64 (-a1)) then (wrap64 (-a1)) else a1) = ji4 := hji4
 have H' := Aside0.mk H
 clear H
 go_enter Try.func92, Try.ntmps92
 go_wp2
 repeat (go_quiet (fail); try go_wp2)
 go_loopg [0, 1] k (fun kq v0 v1 w' => ∃ (x0_1 : Int) (x1_1 : Int), v0 = .int .i64 x0_1 ∧ v1 = .int .i64 x1_1 ∧ Aside0 (agonicref01_Divisor.l0 kq x0_1 x1_1 = some r) ∧ Aside0 (kq ≤ k) ∧ Aside0 (Below w.heap.size w w'))
 case atStart => exact ⟨(ji3), (ji4), (by first | rfl | (simp; done) | (simp only [← hji3] <;> (first | rfl | simp)) | (simp [*]; done)), (by first | rfl | (simp; done) | (simp only [← hji4] <;> (first | rfl | simp)) | (simp [*]; done)), H', ⟨Nat.le_refl _⟩, ⟨zh⟩⟩
 case round =>
  clear H'
  try clear p2
  obtain ⟨x0_1, x1_1, rfl, rfl, HA, HK1, HB⟩ := hrel
  cases gk with
  | zero => exact absurd HA.out (by simp [agonicref01_Divisor.l0])
  | succ k1 =>
   have H := HA.out
   clear HA
   simp only [agonicref01_Divisor.l0] at H
   by_cases c5 : x1_1 > 0
   ·rw [if_pos c5] at H
    have c5b0 : decide (0 < x1_1) = true := decide_eq_true c5
    clear c5
    by_cases c6 : x1_1 = 0
    ·rw [if_pos c6] at H
     exact absurd H (by simp)
    ·rw [if_neg c6] at H
     have c6b0 : (x1_1 == 0) = false := beq_eq_false_iff_ne.mpr c6
     have c6b1 : (x1_1 != 0) = true := bne_iff_ne.mpr c6
     have H' := Aside0.mk H
     clear H
     go_wp2
     repeat (go_quiet (fail); try go_wp2)
     go_roundg k1
     case measure => have := HK1.out; omega
     case rel => exact ⟨(x1_1), (Int.tmod x0_1 x1_1), (by first | rfl | (simp; done) | (simp [*]; done)), (by first | rfl | (simp; done) | (simp [*]; done)), H', ⟨by have := HK1.out; omega⟩, ⟨zh⟩⟩
   ·rw [if_neg c5] at H
    have c5b0 : decide (0 < x1_1) = false := decide_eq_false c5
    clear c5
    obtain rfl := Option.some.inj H
    go_wp2
    repeat (go_quiet (fail); try go_wp2)
    go_ret
    exact ⟨by first | rfl | (simp [errW_none, errW_some] <;> rfl) | (simp only [← hji3, ← hji4]; first | rfl | (simp [errW_none, errW_some] <;> rfl)) | (simp [*, errW_none, errW_some] <;> rfl), zh⟩
def agonicref01_Reduced.f (k : Nat) (a0 : Int) (a1 : Int) : Option (Int × Int) := if a1 < 0 then ((agonicref01_Divisor.f k (wrap64 (-a0)) (wrap64 (-a1))).bind fun t197 => (if t197 = 0 then (none) else (some (wrap64 (Int.tdiv (wrap64 (-a0)) t197), wrap64 (Int.tdiv (wrap64 (-a1)) t197))))) else ((agonicref01_Divisor.f k a0 a1).bind fun t198 => (if t198 = 0 then (none) else (some (wrap64 (Int.tdiv a0 t198), wrap64 (Int.tdiv a1 t198)))))
def agonicref01_Reduced.T4 : Bool × List (List Nat × List Nat) := (true, [([], []), ([], []), ([0, 1], [0, 1]), ([], []), ([], []), ([3, 4], [3, 4]), ([2, 5], [2, 5]), ([6, 0, 1, 2, 3, 4, 5, 6], [6])])
def agonicref01_Reduced.B4 : List Nat := [0, 0, 3, 0, 0, 24, 63, 127]
theorem agonicref01_Reduced.tab4 : rtab .any (opsOf Try.f66 4) = agonicref01_Reduced.T4 := by kernel_rfl
theorem agonicref01_Reduced.bits4 : waitsOk agonicref01_Reduced.T4.2 agonicref01_Reduced.B4 = true := by kernel_rfl
set_option maxHeartbeats 8000000 in
set_option maxRecDepth 100000 in
theorem agonicref01_Reduced.calls (k : Nat) (a0 : Int) (a1 : Int) (r1 : Int) (r2 : Int) (w : World) (h : agonicref01_Reduced.f k a0 a1 = some (r1, r2)) :
  Calls Try.prog 66 #[.int .i64 a0, .int .i64 a1] w fun e w' => e = .returned (.agg #[.int .i64 r1, .int .i64 r2]) ∧ Below w.heap.size w w' := by
 have hu29 := Try.underlying29
 have HB := Aside0.mk (Below.refl w.heap.size w)
 have H : (if a1 < 0 then ((agonicref01_Divisor.f k (wrap64 (-a0)) (wrap64 (-a1))).bind fun t197 => (if t197 = 0 then (none) else (some (wrap64 (Int.tdiv (wrap64 (-a0)) t197), wrap64 (Int.tdiv (wrap64 (-a1)) t197))))) else ((agonicref01_Divisor.f k a0 a1).bind fun t198 => (if t198 = 0 then (none) else (some (wrap64 (Int.tdiv a0 t198), wrap64 (Int.tdiv a1 t198)))))) = some (r1, r2) := h
 clear h
 by_cases c3 : a1 < 0
 ·rw [if_pos c3] at H
  have c3b0 : decide (a1 < 0) = true := decide_eq_true c3
  clear c3
  replace H := zi H
  obtain ⟨t197, A40, H⟩ := H
  try dsimp only at H
  have A4 := Aside0.mk A40
  clear A40
  by_cases c5 : t197 = 0
  ·rw [if_pos c5] at H
   exact absurd H (by simp)
  ·rw [if_neg c5] at H
   have c5b0 : (t197 == 0) = false := beq_eq_false_iff_ne.mpr c5
   have c5b1 : (t197 != 0) = true := bne_iff_ne.mpr c5
   simp only [Option.some.injEq, Prod.mk.injEq] at H
   obtain ⟨rfl, rfl⟩ := H
   go_enter Try.func66, Try.ntmps66
   try go_wp2_with (first | ((with_reducible refine gD 4 rfl ?_); refine zx 4 #[.int .i64 0, .int .i64 0] 29 ?_; intro gb196 hg w6 hbox hb; have BK196 := Aside0.mk (hbox); have GE196 := zG w hg; replace HB := zd hb; clear hb hbox hg) | ((with_reducible refine gC 92 rfl ?_); refine gL 14 Try.func92 #[.int .i64 (wrap64 (-a0)), .int .i64 (wrap64 (-a1))] ?_; (with_reducible refine (agonicref01_Divisor.calls k (wrap64 (-a0)) (wrap64 (-a1)) t197 _ A4.out).mono ?_); rintro e w7 ⟨rfl, hb⟩; refine ⟨_, rfl, ?_⟩; replace BK196 := zk BK196 hb; replace HB := zd hb; (try clear hb)))
   replace BK196 := Aside0.mk (blk_drew BK196.out)
   replace HB := Aside0.mk (below_drew1 HB.out)
   refine start_ (n := 8) (S := fun w' => True) (ds := []) #[false, false, false, false, false, false, false, false] (by kernel_rfl) rfl rfl trivial (fun hHeld => ?_); refine with_tabW agonicref01_Reduced.tab4 agonicref01_Reduced.bits4 (fun HT_ HW_ => ?_)
   generalize w7.drew = w8 at BK196 HB hHeld ⊢
   refine pq HT_ 0 15 8 1 ?_
   refine pq HT_ 1 16 8 3 ?_
   refine pq HT_ 2 17 8 7 ?_
   refine pq HT_ 3 18 8 15 ?_
   refine pq HT_ 4 19 8 31 ?_
   refine pq HT_ 5 20 8 63 ?_
   refine pq HT_ 6 21 8 127 ?_
   refine one_ (i := 7) (N := none) #[true, true, true, true, true, true, true, true] rfl rfl (one_of HT_.out (by kernel_rfl)) (by decide) (fun K hK => ?_)
   have hs9 : w8.cell? ⟨gb196, 0, none⟩ = some (.int .i64 0) := zy BK196 0
   have hfs9 := blk_frozen BK196.out 0
   have hs10 : w8.cell? ⟨gb196, 1, none⟩ = some (.int .i64 0) := zy BK196 1
   have hfs10 := blk_frozen BK196.out 1
   refine skip_ (w1 := ?_) (by rfl) rfl ?_ ?_
   rotate_left
   ·go_simp
    rfl
   refine hK.out _ _ trivial (fun hHeld => ?_)
   clear hK K
   refine done_ (done_of HT_.out (by kernel_rfl)) ?_
   try go_wp2
   refine bodyPost_ret (results_cell_row rfl _ _ gb196 29 #[.int .i64 (wrap64 (Int.tdiv (wrap64 (-a0)) t197)), .int .i64 (wrap64 (Int.tdiv (wrap64 (-a1)) t197))] (0, 0) _ rfl (by refine zm ?_; refine blk_put (cs := #[.int .i64 (wrap64 (Int.tdiv (wrap64 (-a0)) t197)), .int .i64 0]) ?_ 1 _ rfl; refine zm ?_; refine blk_put (cs := #[.int .i64 0, .int .i64 0]) ?_ 0 _ rfl; refine zm ?_; exact BK196.out) Try.underlying29 rfl (by kernel_rfl)) rfl ?_
   exact ⟨ze, zh⟩
 ·rw [if_neg c3] at H
  have c3b0 : decide (a1 < 0) = false := decide_eq_false c3
  clear c3
  replace H := zi H
  obtain ⟨t198, A110, H⟩ := H
  try dsimp only at H
  have A11 := Aside0.mk A110
  clear A110
  by_cases c12 : t198 = 0
  ·rw [if_pos c12] at H
   exact absurd H (by simp)
  ·rw [if_neg c12] at H
   have c12b0 : (t198 == 0) = false := beq_eq_false_iff_ne.mpr c12
   have c12b1 : (t198 != 0) = true := bne_iff_ne.mpr c12
   simp only [Option.some.injEq, Prod.mk.injEq] at H
   obtain ⟨rfl, rfl⟩ := H
   go_enter Try.func66, Try.ntmps66
   try go_wp2_with (first | ((with_reducible refine gD 4 rfl ?_); refine zx 4 #[.int .i64 0, .int .i64 0] 29 ?_; intro gb196 hg w13 hbox hb; have BK196 := Aside0.mk (hbox); have GE196 := zG w hg; replace HB := zd hb; clear hb hbox hg) | ((with_reducible refine gC 92 rfl ?_); refine gL 14 Try.func92 #[.int .i64 a0, .int .i64 a1] ?_; (with_reducible refine (agonicref01_Divisor.calls k a0 a1 t198 _ A11.out).mono ?_); rintro e w14 ⟨rfl, hb⟩; refine ⟨_, rfl, ?_⟩; replace BK196 := zk BK196 hb; replace HB := zd hb; (try clear hb)))
   replace BK196 := Aside0.mk (blk_drew BK196.out)
   replace HB := Aside0.mk (below_drew1 HB.out)
   refine start_ (n := 8) (S := fun w' => True) (ds := []) #[false, false, false, false, false, false, false, false] (by kernel_rfl) rfl rfl trivial (fun hHeld => ?_); refine with_tabW agonicref01_Reduced.tab4 agonicref01_Reduced.bits4 (fun HT_ HW_ => ?_)
   generalize w14.drew = w15 at BK196 HB hHeld ⊢
   refine pq HT_ 0 15 8 1 ?_
   refine pq HT_ 1 16 8 3 ?_
   refine pq HT_ 2 17 8 7 ?_
   refine pq HT_ 3 18 8 15 ?_
   refine pq HT_ 4 19 8 31 ?_
   refine pq HT_ 5 20 8 63 ?_
   refine pq HT_ 6 21 8 127 ?_
   refine one_ (i := 7) (N := none) #[true, true, true, true, true, true, true, true] rfl rfl (one_of HT_.out (by kernel_rfl)) (by decide) (fun K hK => ?_)
   have hs16 : w15.cell? ⟨gb196, 0, none⟩ = some (.int .i64 0) := zy BK196 0
   have hfs16 := blk_frozen BK196.out 0
   have hs17 : w15.cell? ⟨gb196, 1, none⟩ = some (.int .i64 0) := zy BK196 1
   have hfs17 := blk_frozen BK196.out 1
   refine skip_ (w1 := ?_) (by rfl) rfl ?_ ?_
   rotate_left
   ·go_simp
    rfl
   refine hK.out _ _ trivial (fun hHeld => ?_)
   clear hK K
   refine done_ (done_of HT_.out (by kernel_rfl)) ?_
   try go_wp2
   refine bodyPost_ret (results_cell_row rfl _ _ gb196 29 #[.int .i64 (wrap64 (Int.tdiv a0 t198)), .int .i64 (wrap64 (Int.tdiv a1 t198))] (0, 0) _ rfl (by refine zm ?_; refine blk_put (cs := #[.int .i64 (wrap64 (Int.tdiv a0 t198)), .int .i64 0]) ?_ 1 _ rfl; refine zm ?_; refine blk_put (cs := #[.int .i64 0, .int .i64 0]) ?_ 0 _ rfl; refine zm ?_; exact BK196.out) Try.underlying29 rfl (by kernel_rfl)) rfl ?_
   exact ⟨ze, zh⟩
def agonicref01_Less.f (a0_0 : Int) (a0_1 : Int) (a1_0 : Int) (a1_1 : Int) : Option (Bool) := some (decide ((wrap64 (a0_0 * a1_1)) < (wrap64 (a1_0 * a0_1))))
set_option maxHeartbeats 8000000 in
set_option maxRecDepth 100000 in
theorem agonicref01_Less.calls (a0_0 : Int) (a0_1 : Int) (a1_0 : Int) (a1_1 : Int) (r : Bool) (w : World) (h : agonicref01_Less.f a0_0 a0_1 a1_0 a1_1 = some r) :
  Calls Try.prog 67 #[.agg #[.int .i64 a0_0, .int .i64 a0_1], .agg #[.int .i64 a1_0, .int .i64 a1_1]] w fun e w' => e = .returned (.bool r) ∧ Below w.heap.size w w' := by
 have hu29 := Try.underlying29
 have HB := Aside0.mk (Below.refl w.heap.size w)
 have H : (some (decide ((wrap64 (a0_0 * a1_1)) < (wrap64 (a1_0 * a0_1))))) = some r := h
 clear h
 obtain rfl := Option.some.inj H
 go_enter Try.func67, Try.ntmps67
 go_wp2_with (first | ((with_reducible refine gD 2 rfl ?_); refine zx 2 #[.int .i64 a0_0, .int .i64 a0_1] 29 ?_; intro gb199 hg w3 hbox hb; have BK199 := Aside0.mk (hbox); have GE199 := zG w hg; replace HB := zd hb; clear hb hbox hg) | ((with_reducible refine gD 3 rfl ?_); refine zx 3 #[.int .i64 a1_0, .int .i64 a1_1] 29 ?_; intro gb200 hg w4 hbox hb; have BK200 := Aside0.mk (hbox); have GE200 := zG w hg; replace HB := zd hb; have NB199_200 := zN BK199 hg; have NB200_199 := zM BK199 hg; replace BK199 := zk BK199 hb; clear hb hbox hg; have hnb5 := NB199_200.out; have hnc5 := NB200_199.out; have hcz6_0 : w4.cell? ⟨gb199, 0, none⟩ = some (.int .i64 a0_0) := zy BK199 0; have hcz6_1 : w4.cell? ⟨gb199, 1, none⟩ = some (.int .i64 a0_1) := zy BK199 1; have hfz6_0 := blk_frozen BK199.out 0; have hfz6_1 := blk_frozen BK199.out 1; have hcz7_0 : w4.cell? ⟨gb200, 0, none⟩ = some (.int .i64 a1_0) := zy BK200 0; have hcz7_1 : w4.cell? ⟨gb200, 1, none⟩ = some (.int .i64 a1_1) := zy BK200 1; have hfz7_0 := blk_frozen BK200.out 0; have hfz7_1 := blk_frozen BK200.out 1))
 go_ret
 exact ⟨ze, zh⟩
end Go.Proofs.Ytccjefoejjnccaa.C
