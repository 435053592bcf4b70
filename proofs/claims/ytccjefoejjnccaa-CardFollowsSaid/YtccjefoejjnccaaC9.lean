-- Written by a program of this session (wip/tools/myprint.py, over the kit's print).
import Derived.Test.YtccjefoejjnccaaC0
import Derived.Test.YtccjefoejjnccaaC8
import Derived.Test.YtccjefoejjnccaaZ
namespace Go.Proofs.Ytccjefoejjnccaa.C
open Go.RowKit Go.Proofs.YtccjefoejjnccaaW.PrintWords Go.Proofs.YtccjefoejjnccaaW.PrintLast Go.Proofs.YtccjefoejjnccaaW.PrintMore
attribute [local go_sem] max2_int min2_int max_two min_two max_three min_three max_four min_four   -- for this text's walks alone
set_option linter.unusedVariables false
set_option linter.unusedSimpArgs false
def agonicref05_Plus.f (k : Nat) (a0_0 : Int) (a0_1 : Int) (a1_0 : Int) (a1_1 : Int) : Option (Int × Int) := (agonicref01_Divisor.f k a0_1 a1_1).bind fun t204 => (if t204 = 0 then (none) else ((agonicref01_Reduced.f k (wrap64 ((wrap64 (a0_0 * (wrap64 (Int.tdiv a1_1 t204)))) + (wrap64 (a1_0 * (wrap64 (Int.tdiv a0_1 t204)))))) (wrap64 ((wrap64 (Int.tdiv a0_1 t204)) * a1_1))).bind fun bt205 => (some (bt205.1, bt205.2))))
def agonicref05_Plus.T2 : Bool × List (List Nat × List Nat) := (true, [([], []), ([0], [0]), ([], []), ([2], [2]), ([], []), ([3, 4], [3, 4]), ([1, 5], [1, 5]), ([], []), ([7], [7]), ([], []), ([9], [9]), ([], []), ([10, 11], [10, 11]), ([8, 12], [8, 12]), ([6, 13], [6, 13]), ([], []), ([15], [15]), ([], []), ([16, 17], [16, 17]), ([], []), ([19], [19]), ([18, 20], [18, 20]), ([14, 21], [14, 21]), ([22, 22, 0, 1, 2, 3, 4, 5, 6, 7, 8, 9, 10, 11, 12, 13, 14, 15, 16, 17, 18, 19, 20, 21, 22], [22])])
def agonicref05_Plus.B2 : List Nat := [0, 1, 0, 4, 0, 28, 63, 0, 128, 0, 512, 0, 3584, 8064, 16383, 0, 32768, 0, 229376, 0, 524288, 2064384, 4194303, 8388607]
theorem agonicref05_Plus.tab2 : rtab .any (opsOf Try.f69 2) = agonicref05_Plus.T2 := by kernel_rfl
theorem agonicref05_Plus.bits2 : waitsOk agonicref05_Plus.T2.2 agonicref05_Plus.B2 = true := by kernel_rfl
set_option maxHeartbeats 8000000 in
set_option maxRecDepth 100000 in
theorem agonicref05_Plus.calls (k : Nat) (a0_0 : Int) (a0_1 : Int) (a1_0 : Int) (a1_1 : Int) (r1 : Int) (r2 : Int) (w : World) (h : agonicref05_Plus.f k a0_0 a0_1 a1_0 a1_1 = some (r1, r2)) :
  Calls Try.prog 69 #[.agg #[.int .i64 a0_0, .int .i64 a0_1], .agg #[.int .i64 a1_0, .int .i64 a1_1]] w fun e w' => e = .returned (.agg #[.int .i64 r1, .int .i64 r2]) ∧ Below w.heap.size w w' := by
 have hu29 := Try.underlying29
 have HB := Aside0.mk (Below.refl w.heap.size w)
 have H : ((agonicref01_Divisor.f k a0_1 a1_1).bind fun t204 => (if t204 = 0 then (none) else ((agonicref01_Reduced.f k (wrap64 ((wrap64 (a0_0 * (wrap64 (Int.tdiv a1_1 t204)))) + (wrap64 (a1_0 * (wrap64 (Int.tdiv a0_1 t204)))))) (wrap64 ((wrap64 (Int.tdiv a0_1 t204)) * a1_1))).bind fun bt205 => (some (bt205.1, bt205.2))))) = some (r1, r2) := h
 clear h
 replace H := zi H
 obtain ⟨t204, A30, H⟩ := H
 try dsimp only at H
 have A3 := Aside0.mk A30
 clear A30
 by_cases c4 : t204 = 0
 ·rw [if_pos c4] at H
  exact absurd H (by simp)
 ·rw [if_neg c4] at H
  have c4b0 : (t204 == 0) = false := beq_eq_false_iff_ne.mpr c4
  have c4b1 : (t204 != 0) = true := bne_iff_ne.mpr c4
  replace H := zi H
  obtain ⟨⟨t205, t206⟩, A50, H⟩ := H
  try dsimp only at H
  have A5 := Aside0.mk A50
  clear A50
  simp only [Option.some.injEq, Prod.mk.injEq] at H
  obtain ⟨rfl, rfl⟩ := H
  go_enter Try.func69, Try.ntmps69
  try go_wp2_with (first | ((with_reducible refine gD 2 rfl ?_); refine zx 2 #[.int .i64 a0_0, .int .i64 a0_1] 29 ?_; intro gb201 hg w6 hbox hb; have BK201 := Aside0.mk (hbox); have GE201 := zG w hg; replace HB := zd hb; clear hb hbox hg) | ((with_reducible refine gD 3 rfl ?_); refine zx 3 #[.int .i64 a1_0, .int .i64 a1_1] 29 ?_; intro gb202 hg w7 hbox hb; have BK202 := Aside0.mk (hbox); have GE202 := zG w hg; replace HB := zd hb; have NB201_202 := zN BK201 hg; have NB202_201 := zM BK201 hg; replace BK201 := zk BK201 hb; clear hb hbox hg) | ((with_reducible refine gD 4 rfl ?_); refine zx 4 #[.int .i64 0, .int .i64 0] 29 ?_; intro gb203 hg w8 hbox hb; have BK203 := Aside0.mk (hbox); have GE203 := zG w hg; replace HB := zd hb; have NB201_203 := zN BK201 hg; have NB203_201 := zM BK201 hg; replace BK201 := zk BK201 hb; have NB202_203 := zN BK202 hg; have NB203_202 := zM BK202 hg; replace BK202 := zk BK202 hb; clear hb hbox hg; have hnb9 := NB201_202.out; have hnc9 := NB202_201.out; have hnb10 := NB201_203.out; have hnc10 := NB203_201.out; have hcz11_0 : w8.cell? ⟨gb201, 0, none⟩ = some (.int .i64 a0_0) := zy BK201 0; have hcz11_1 : w8.cell? ⟨gb201, 1, none⟩ = some (.int .i64 a0_1) := zy BK201 1; have hfz11_0 := blk_frozen BK201.out 0; have hfz11_1 := blk_frozen BK201.out 1; have hnb12 := NB202_203.out; have hnc12 := NB203_202.out; have hcz13_0 : w8.cell? ⟨gb202, 0, none⟩ = some (.int .i64 a1_0) := zy BK202 0; have hcz13_1 : w8.cell? ⟨gb202, 1, none⟩ = some (.int .i64 a1_1) := zy BK202 1; have hfz13_0 := blk_frozen BK202.out 0; have hfz13_1 := blk_frozen BK202.out 1) | ((with_reducible refine gC 92 rfl ?_); refine gL 10 Try.func92 #[.int .i64 a0_1, .int .i64 a1_1] ?_; (with_reducible refine (agonicref01_Divisor.calls k a0_1 a1_1 t204 _ A3.out).mono ?_); rintro e w14 ⟨rfl, hb⟩; refine ⟨_, rfl, ?_⟩; replace BK201 := zk BK201 hb; replace BK202 := zk BK202 hb; replace BK203 := zk BK203 hb; replace HB := zd hb; (try clear hb)))
  replace BK201 := Aside0.mk (blk_drew BK201.out)
  replace BK202 := Aside0.mk (blk_drew BK202.out)
  replace BK203 := Aside0.mk (blk_drew BK203.out)
  replace HB := Aside0.mk (below_drew1 HB.out)
  refine start_ (n := 24) (S := fun w' => w'.cell? ⟨gb201, 0, none⟩ = some (.int .i64 a0_0) ∧ w'.cell? ⟨gb201, 1, none⟩ = some (.int .i64 a0_1) ∧ w'.cell? ⟨gb202, 0, none⟩ = some (.int .i64 a1_0) ∧ w'.cell? ⟨gb202, 1, none⟩ = some (.int .i64 a1_1)) (ds := []) #[false, false, false, false, false, false, false, false, false, false, false, false, false, false, false, false, false, false, false, false, false, false, false, false] (by kernel_rfl) rfl rfl ⟨zy BK201 0, zy BK201 1, zy BK202 0, zy BK202 1⟩ (fun hHeld => ?_); refine with_tabW agonicref05_Plus.tab2 agonicref05_Plus.bits2 (fun HT_ HW_ => ?_)
  generalize w14.drew = w15 at BK201 BK202 BK203 HB hHeld ⊢
  refine pq HT_ 0 11 24 1 ?_
  refine pq HT_ 2 13 24 5 ?_
  refine pq HT_ 4 15 24 21 ?_
  refine pq HT_ 7 18 24 149 ?_
  refine pq HT_ 9 20 24 661 ?_
  refine pq HT_ 11 22 24 2709 ?_
  refine pq HT_ 15 26 24 35477 ?_
  refine pq HT_ 17 28 24 166549 ?_
  refine pq HT_ 19 30 24 690837 ?_
  refine take_ (i := 1) (N := some 12) (v := ?_) (a' := ?_) #[true, true, true, false, true, false, false, true, false, true, false, true, false, false, false, true, false, true, false, true, false, false, false, false] rfl rfl (take_ofW HT_.out HW_.out (by kernel_rfl)) (fun _ _ _ h => h) (Or.inl ⟨by rfl, ?_⟩) hHeld ?_ ?_
  rotate_left
  ·rintro w' ⟨s0, s1, s2, s3⟩
   go_simp
   with_reducible rfl
  rotate_left
  ·simp only [Act.put, List.setIfInBounds_toArray, List.set_cons_zero, List.set_cons_succ, i64_w, i32_w]
   rfl
  refine take_ (i := 3) (N := some 14) (v := ?_) (a' := ?_) #[true, true, true, true, true, false, false, true, false, true, false, true, false, false, false, true, false, true, false, true, false, false, false, false] rfl rfl (take_ofW HT_.out HW_.out (by kernel_rfl)) (fun _ _ _ h => h) (Or.inl ⟨by rfl, ?_⟩) hHeld ?_ ?_
  rotate_left
  ·rintro w' ⟨s0, s1, s2, s3⟩
   go_simp
   with_reducible rfl
  rotate_left
  ·simp only [Act.put, List.setIfInBounds_toArray, List.set_cons_zero, List.set_cons_succ, i64_w, i32_w]
   rfl
  refine pq HT_ 5 16 24 690879 ?_
  refine pq HT_ 6 17 24 690943 ?_
  refine take_ (i := 8) (N := some 19) (v := ?_) (a' := ?_) #[true, true, true, true, true, true, true, true, true, true, false, true, false, false, false, true, false, true, false, true, false, false, false, false] rfl rfl (take_ofW HT_.out HW_.out (by kernel_rfl)) (fun _ _ _ h => h) (Or.inl ⟨by rfl, ?_⟩) hHeld ?_ ?_
  rotate_left
  ·rintro w' ⟨s0, s1, s2, s3⟩
   go_simp
   with_reducible rfl
  rotate_left
  ·simp only [Act.put, List.setIfInBounds_toArray, List.set_cons_zero, List.set_cons_succ, i64_w, i32_w]
   rfl
  refine take_ (i := 10) (N := some 21) (v := ?_) (a' := ?_) #[true, true, true, true, true, true, true, true, true, true, true, true, false, false, false, true, false, true, false, true, false, false, false, false] rfl rfl (take_ofW HT_.out HW_.out (by kernel_rfl)) (fun _ _ _ h => h) (Or.inl ⟨by rfl, ?_⟩) hHeld ?_ ?_
  rotate_left
  ·rintro w' ⟨s0, s1, s2, s3⟩
   go_simp
   with_reducible rfl
  rotate_left
  ·simp only [Act.put, List.setIfInBounds_toArray, List.set_cons_zero, List.set_cons_succ, i64_w, i32_w]
   rfl
  refine pq HT_ 12 23 24 696319 ?_
  refine pq HT_ 13 24 24 704511 ?_
  refine pq HT_ 14 25 24 720895 ?_
  refine take_ (i := 16) (N := some 27) (v := ?_) (a' := ?_) #[true, true, true, true, true, true, true, true, true, true, true, true, true, true, true, true, true, true, false, true, false, false, false, false] rfl rfl (take_ofW HT_.out HW_.out (by kernel_rfl)) (fun _ _ _ h => h) (Or.inl ⟨by rfl, ?_⟩) hHeld ?_ ?_
  rotate_left
  ·rintro w' ⟨s0, s1, s2, s3⟩
   go_simp
   with_reducible rfl
  rotate_left
  ·simp only [Act.put, List.setIfInBounds_toArray, List.set_cons_zero, List.set_cons_succ, i64_w, i32_w]
   rfl
  refine pq HT_ 18 29 24 1048575 ?_
  refine take_ (i := 20) (N := some 31) (v := ?_) (a' := ?_) #[true, true, true, true, true, true, true, true, true, true, true, true, true, true, true, true, true, true, true, true, true, false, false, false] rfl rfl (take_ofW HT_.out HW_.out (by kernel_rfl)) (fun _ _ _ h => h) (Or.inl ⟨by rfl, ?_⟩) hHeld ?_ ?_
  rotate_left
  ·rintro w' ⟨s0, s1, s2, s3⟩
   go_simp
   with_reducible rfl
  rotate_left
  ·simp only [Act.put, List.setIfInBounds_toArray, List.set_cons_zero, List.set_cons_succ, i64_w, i32_w]
   rfl
  refine pq HT_ 21 32 24 4194303 ?_
  refine one_ (i := 22) (N := some 33) #[true, true, true, true, true, true, true, true, true, true, true, true, true, true, true, true, true, true, true, true, true, true, true, false] rfl rfl (one_of HT_.out (by kernel_rfl)) (by decide) (fun K hK => ?_)
  refine goes_ Try.func66 (by kernel_rfl) rfl #[.int .i64 (wrap64 ((wrap64 (a0_0 * (wrap64 (Int.tdiv a1_1 t204)))) + (wrap64 (a1_0 * (wrap64 (Int.tdiv a0_1 t204)))))), .int .i64 (wrap64 ((wrap64 (Int.tdiv a0_1 t204)) * a1_1))] (by rfl) rfl rfl zs ?_
  with_reducible refine (agonicref01_Reduced.calls k (wrap64 ((wrap64 (a0_0 * (wrap64 (Int.tdiv a1_1 t204)))) + (wrap64 (a1_0 * (wrap64 (Int.tdiv a0_1 t204)))))) (wrap64 ((wrap64 (Int.tdiv a0_1 t204)) * a1_1)) t205 t206 _ A5.out).mono ?_
  rintro e w16 ⟨rfl, hb⟩
  refine ⟨_, rfl, ?_⟩
  replace BK201 := zk BK201 hb
  replace BK202 := zk BK202 hb
  replace BK203 := zk BK203 hb
  replace HB := zd hb
  (try clear hb)
  (try clear hb2)
  (try clear hk)
  (try clear hi)
  refine hK.out _ _ ⟨zy BK201 0, zy BK201 1, zy BK202 0, zy BK202 1⟩ (fun hHeld => ?_)
  clear hK K
  refine norm_ (a' := ?_) ?_ ?_
  rotate_left
  ·show Act.put _ (some 33) _ = _
   simp only [Act.put, List.setIfInBounds_toArray, List.set_cons_zero, List.set_cons_succ, i64_w, i32_w]
   rfl
  refine one_ (i := 23) (N := none) #[true, true, true, true, true, true, true, true, true, true, true, true, true, true, true, true, true, true, true, true, true, true, true, true] rfl rfl (one_of HT_.out (by kernel_rfl)) (by decide) (fun K hK => ?_)
  have hs17 : w16.cell? ⟨gb203, 0, none⟩ = some (.int .i64 0) := zy BK203 0
  have hfs17 := blk_frozen BK203.out 0
  have hns17_0 := NB201_203.out
  have hns17_1 := NB202_203.out
  have hms17_0 := NB203_201.out
  have hms17_1 := NB203_202.out
  have hs18 : w16.cell? ⟨gb203, 1, none⟩ = some (.int .i64 0) := zy BK203 1
  have hfs18 := blk_frozen BK203.out 1
  have hns18_0 := NB201_203.out
  have hns18_1 := NB202_203.out
  have hms18_0 := NB203_201.out
  have hms18_1 := NB203_202.out
  refine skip_ (w1 := ?_) (by rfl) rfl ?_ ?_
  rotate_left
  ·go_simp
   rfl
  refine hK.out _ _ ⟨((cell_far (p := ⟨gb203, _, none⟩) NB201_203.out _).trans (((cell_far (p := ⟨gb203, _, none⟩) NB201_203.out _).trans (hHeld.1)))), ((cell_far (p := ⟨gb203, _, none⟩) NB201_203.out _).trans (((cell_far (p := ⟨gb203, _, none⟩) NB201_203.out _).trans (hHeld.2.1)))), ((cell_far (p := ⟨gb203, _, none⟩) NB202_203.out _).trans (((cell_far (p := ⟨gb203, _, none⟩) NB202_203.out _).trans (hHeld.2.2.1)))), ((cell_far (p := ⟨gb203, _, none⟩) NB202_203.out _).trans (((cell_far (p := ⟨gb203, _, none⟩) NB202_203.out _).trans (hHeld.2.2.2))))⟩ (fun hHeld => ?_)
  clear hK K
  refine done_ (done_of HT_.out (by kernel_rfl)) ?_
  try go_wp2
  refine bodyPost_ret (results_cell_row rfl _ _ gb203 29 #[.int .i64 t205, .int .i64 t206] (0, 0) _ rfl (by refine zm ?_; refine blk_put (cs := #[.int .i64 t205, .int .i64 0]) ?_ 1 _ rfl; refine zm ?_; refine blk_put (cs := #[.int .i64 0, .int .i64 0]) ?_ 0 _ rfl; refine zm ?_; exact BK203.out) Try.underlying29 rfl (by kernel_rfl)) rfl ?_
  exact ⟨ze, zh⟩
end Go.Proofs.Ytccjefoejjnccaa.C
