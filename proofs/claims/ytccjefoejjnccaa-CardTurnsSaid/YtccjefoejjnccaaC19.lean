-- Written by a program of this session (wip/tools/myprint.py, over the kit's print).
import Derived.Test.YtccjefoejjnccaaC0
import Derived.Test.YtccjefoejjnccaaZ
namespace Go.Proofs.Ytccjefoejjnccaa.C
open Go.RowKit Go.Proofs.YtccjefoejjnccaaW.PrintWords Go.Proofs.YtccjefoejjnccaaW.PrintLast Go.Proofs.YtccjefoejjnccaaW.PrintMore
attribute [local go_sem] max2_int min2_int max_two min_two max_three min_three max_four min_four   -- for this text's walks alone
set_option linter.unusedVariables false
set_option linter.unusedSimpArgs false
def agoniclaw05_Rose_made.l0 : Nat → List (S55) → Int → Int → List (S81) → Int → Option ((List (S55)))
 | 0, _, _, _, _, _ => none
 | k + 1, x3, x4, x5, x402000, x402001 => if x5 < (x402000.length : Int) then (if x5 < 5 then (if 0 ≤ x5 then (if (wrap64 ((wrap64 (2 * x4)) + 1)) = 0 then (none) else (if x3.length < 8796093022208 then (agoniclaw05_Rose_made.l0 k (x3 ++ [(⟨wrap64 ((wrap64 (720 * x5)) + (Int.tmod (wrap64 ((rd_T81 x402000 x5).f0)) 720)), wrap64 ((Int.tmod (wrap64 ((rd_T81 x402000 x5).f1)) (wrap64 ((wrap64 (2 * x4)) + 1))) - x4)⟩ : S55)]) x4 (wrap64 (x5 + 1)) x402000 x402001) else (none))) else (none)) else (if (x3.length : Int) = 0 then (if x3.length < 8796093022208 then (some (x3 ++ [(⟨7, wrap64 (x402001)⟩ : S55)])) else (none)) else (some x3))) else (if (x3.length : Int) = 0 then (if x3.length < 8796093022208 then (some (x3 ++ [(⟨7, wrap64 (x402001)⟩ : S55)])) else (none)) else (some x3))
def agoniclaw05_Rose_made.f (k : Nat) (l0_0 : List (S81)) (a0_1 : Int) : Option ((List (S55))) := agoniclaw05_Rose_made.l0 k ([] : List (S55)) (wrap64 (20 + (wrap64 (3 * (wrap64 (a0_1)))))) 0 l0_0 a0_1
def agoniclaw05_Rose_made.T6 : Bool × List (List Nat × List Nat) := (true, [([], []), ([0], [0]), ([], []), ([2], [2]), ([], []), ([3, 4], [3, 4]), ([5], [5]), ([6], [6]), ([7], [7]), ([8], [8]), ([1, 9], [1, 9]), ([], []), ([11], [11]), ([], []), ([12, 13], [12, 13]), ([14], [14]), ([15], [15]), ([16], [16]), ([], []), ([18], [18]), ([19], [19]), ([17, 20], [17, 20]), ([], []), ([21, 22], [21, 22]), ([10, 23], [10, 23]), ([], []), ([25, 24, 0, 1, 2, 3, 4, 5, 6, 7, 8, 9, 10, 11, 12, 13, 14, 15, 16, 17, 18, 19, 20, 21, 22, 23, 24, 25], [24, 25])])
def agoniclaw05_Rose_made.B6 : List Nat := [0, 1, 0, 4, 0, 28, 60, 124, 252, 508, 1023, 0, 2048, 0, 14336, 30720, 63488, 129024, 0, 262144, 786432, 2095104, 0, 8386560, 16777215, 0, 67108863]
theorem agoniclaw05_Rose_made.tab6 : rtab .any (opsOf Try.f37 6) = agoniclaw05_Rose_made.T6 := by kernel_rfl
theorem agoniclaw05_Rose_made.bits6 : waitsOk agoniclaw05_Rose_made.T6.2 agoniclaw05_Rose_made.B6 = true := by kernel_rfl
set_option maxHeartbeats 8000000 in
set_option maxRecDepth 100000 in
theorem agoniclaw05_Rose_made.calls (k : Nat) (A0_0 : Option Addr) (c0_0 : Nat) (l0_0 : List (S81)) (a0_1 : Int) (r : List (S55)) (w : World) (hr0_0 : Kd.C k81 w A0_0 l0_0.length l0_0) (hc0_0 : l0_0.length ≤ c0_0) (h : agoniclaw05_Rose_made.f k l0_0 a0_1 = some r) :
  Calls Try.prog 37 #[.agg #[.slice A0_0 l0_0.length c0_0, .int .u8 a0_1]] w fun e w' => ∃ v0_ : Value, e = .returned (v0_) ∧ Kd.R k55 55 w' w.heap.size (fun _ => True) v0_ r ∧ Below w.heap.size w w' := by
 have hu72 := Try.underlying72
 have hu55 := Try.underlying55
 have HR0_0 := Aside0.mk hr0_0
 have HC0_0 := Aside0.mk hc0_0
 clear hr0_0 hc0_0
 have HB := Aside0.mk (Below.refl w.heap.size w)
 have H : (agoniclaw05_Rose_made.l0 k ([] : List (S55)) (wrap64 (20 + (wrap64 (3 * (wrap64 (a0_1)))))) 0 l0_0 a0_1) = some r := h
 clear h
 have H' := Aside0.mk H
 clear H
 go_enter Try.func37, Try.ntmps37
 go_wp2_with (first | ((with_reducible refine gD 1 rfl ?_); refine zx 1 #[.slice A0_0 l0_0.length c0_0, .int .u8 a0_1] 72 ?_; intro gb401 hg w2 hbox hb; have BK401 := Aside0.mk (hbox); have GE401 := zG w hg; replace HB := zd hb; clear hb hbox hg; have hcz3_0 : w2.cell? ⟨gb401, 0, none⟩ = some (.slice A0_0 l0_0.length c0_0) := zy BK401 0; have hcz3_1 : w2.cell? ⟨gb401, 1, none⟩ = some (.int .u8 a0_1) := zy BK401 1; have hfz3_0 := blk_frozen BK401.out 0; have hfz3_1 := blk_frozen BK401.out 1))
 go_loopg [3, 5] k (fun kq v3 v5 w' => ∃ (x3_1 : List (S55)) (x5_1 : Int), v5 = .int .i64 x5_1 ∧ Aside0 (agoniclaw05_Rose_made.l0 kq x3_1 (wrap64 (20 + (wrap64 (3 * (wrap64 (a0_1)))))) x5_1 l0_0 a0_1 = some r) ∧ Aside0 (kq ≤ k) ∧ Aside0 (Kd.R k55 55 w' w.heap.size (fun _ => True) v3 x3_1) ∧ Aside0 (w'.heap[gb401]? = some (.cells #[(.slice A0_0 l0_0.length c0_0), .int .u8 a0_1] 72 (0, 0))) ∧ Aside0 (Below w.heap.size w w'))
 case atStart => exact ⟨(([] : List (S55))), (0), (by first | rfl | (simp; done) | (simp [*]; done)), H', ⟨Nat.le_refl _⟩, ⟨by first | exact Kd.R_nil _ _ _ _ _ | exact Kd.N_nil _ _ _ _ _ | exact Kd.V_nil _ _ _ _ _ | exact Kd.Q_nil _ _ _ _ _ | exact Kd.S_nil _ _ _ _ _⟩, ⟨by refine zm ?_; exact BK401.out⟩, ⟨zh⟩⟩
 case round =>
  clear H'
  try clear p2
  try clear c3
  try clear hcz3_0
  try clear hcz3_1
  try clear hfz3_0
  try clear hfz3_1
  obtain ⟨x3_1, x5_1, rfl, HA, HK1, HO_3, BK401, HB⟩ := hrel
  cases gk with
  | zero => exact absurd HA.out (by simp [agoniclaw05_Rose_made.l0])
  | succ k1 =>
   have H := HA.out
   clear HA
   simp only [agoniclaw05_Rose_made.l0] at H
   by_cases c4 : x5_1 < (l0_0.length : Int)
   ·rw [if_pos c4] at H
    have c4b0 : decide (x5_1 < (l0_0.length : Int)) = true := decide_eq_true c4
    clear c4
    by_cases c5 : x5_1 < 5
    ·rw [if_pos c5] at H
     have c5b0 : decide (x5_1 < 5) = true := decide_eq_true c5
     clear c5
     by_cases c6 : 0 ≤ x5_1
     ·rw [if_pos c6] at H
      have c6b0 : decide (0 ≤ x5_1) = true := decide_eq_true c6
      clear c6
      by_cases c7 : (wrap64 ((wrap64 (2 * (wrap64 (20 + (wrap64 (3 * (wrap64 (a0_1)))))))) + 1)) = 0
      ·rw [if_pos c7] at H
       exact absurd H (by simp)
      ·rw [if_neg c7] at H
       have c7b0 : ((wrap64 ((wrap64 (2 * (wrap64 (20 + (wrap64 (3 * (wrap64 (a0_1)))))))) + 1)) == 0) = false := beq_eq_false_iff_ne.mpr c7
       have c7b1 : ((wrap64 ((wrap64 (2 * (wrap64 (20 + (wrap64 (3 * (wrap64 (a0_1)))))))) + 1)) != 0) = true := bne_iff_ne.mpr c7
       by_cases c8 : x3_1.length < 8796093022208
       ·rw [if_pos c8] at H
        have LMc8 := Aside0.mk c8
        clear c8
        obtain ⟨y405, hy405⟩ : ∃ y_ : List (S55), y_ = (x3_1 ++ [(⟨wrap64 ((wrap64 (720 * x5_1)) + (Int.tmod (wrap64 ((rd_T81 l0_0 x5_1).f0)) 720)), wrap64 ((Int.tmod (wrap64 ((rd_T81 l0_0 x5_1).f1)) (wrap64 ((wrap64 (2 * (wrap64 (20 + (wrap64 (3 * (wrap64 (a0_1)))))))) + 1))) - (wrap64 (20 + (wrap64 (3 * (wrap64 (a0_1)))))))⟩ : S55)]) := ⟨_, rfl⟩
        replace H : (agoniclaw05_Rose_made.l0 k1 y405 (wrap64 (20 + (wrap64 (3 * (wrap64 (a0_1)))))) (wrap64 (x5_1 + 1)) l0_0 a0_1) = some r := by first | (rw [hy405]; with_reducible exact H) | (have H2_ := (Option.bind_some _ _).symm.trans H; rw [hy405]; with_reducible exact H2_) | (have H2_ := (Option.bind_some _ _).symm.trans H; with_reducible exact H2_) | with_reducible exact H | (rw [hy405]; exact H) | exact H
        have Ny405 := Aside0.mk hy405
        clear hy405
        have H' := Aside0.mk H
        clear H
        have hcz9_0 : wr.cell? ⟨gb401, 0, none⟩ = some (.slice A0_0 l0_0.length c0_0) := zy BK401 0
        have hcz9_1 : wr.cell? ⟨gb401, 1, none⟩ = some (.int .u8 a0_1) := zy BK401 1
        have hfz9_0 := blk_frozen BK401.out 0
        have hfz9_1 := blk_frozen BK401.out 1
        try go_wp2
        replace HO_3 := Aside0.mk (Kd.R_drew HO_3.out)
        replace BK401 := Aside0.mk (blk_drew BK401.out)
        replace HB := Aside0.mk (below_drew1 HB.out)
        have p402 : 0 ≤ (x5_1 : Int) := zp
        have q402 : x5_1 < (l0_0.length : Int) := zp
        obtain ⟨ad402, e402, hx402_0, hx402_1⟩ := at_T81 HR0_0.out x5_1 p402 q402
        have hw402_1 := hx402_1
        have hw402_0 := hx402_0
        cases e402
        replace hx402_0 := (HB.out.cell (World.block_lt_of_cell? w _ hx402_0)).trans hx402_0
        replace hx402_1 := (HB.out.cell (World.block_lt_of_cell? w _ hx402_1)).trans hx402_1
        replace p402 := eq_true p402
        replace q402 := eq_true q402
        have p403 : 0 ≤ (x5_1 : Int) := zp
        have q403 : x5_1 < (l0_0.length : Int) := zp
        obtain ⟨ad403, e403, hx403_0, hx403_1⟩ := at_T81 HR0_0.out x5_1 p403 q403
        have hw403_1 := hx403_1
        have hw403_0 := hx403_0
        obtain rfl : ad402 = ad403 := (by injection e403)
        replace hx403_0 := (HB.out.cell (World.block_lt_of_cell? w _ hx403_0)).trans hx403_0
        replace hx403_1 := (HB.out.cell (World.block_lt_of_cell? w _ hx403_1)).trans hx403_1
        replace p403 := eq_true p403
        replace q403 := eq_true q403
        refine start_ (n := 27) (S := fun w' => w'.cell? ⟨gb401, 0, none⟩ = some (.slice (some ad402) l0_0.length c0_0) ∧ w'.cell? ⟨gb401, 1, none⟩ = some (.int .u8 a0_1) ∧ w'.cell? (ad402.add ((x5_1).toNat * 2)) = some (.int .u16 ((rd_T81 l0_0 x5_1).f0)) ∧ w'.cell? ⟨(ad402.add ((x5_1).toNat * 2)).block, (ad402.add ((x5_1).toNat * 2)).off + 1, none⟩ = some (.int .u16 ((rd_T81 l0_0 x5_1).f1)) ∧ w'.cell? (ad402.add ((x5_1).toNat * 2)) = some (.int .u16 ((rd_T81 l0_0 x5_1).f0)) ∧ w'.cell? ⟨(ad402.add ((x5_1).toNat * 2)).block, (ad402.add ((x5_1).toNat * 2)).off + 1, none⟩ = some (.int .u16 ((rd_T81 l0_0 x5_1).f1))) (ds := []) #[false, false, false, false, false, false, false, false, false, false, false, false, false, false, false, false, false, false, false, false, false, false, false, false, false, false, false] (by kernel_rfl) rfl rfl ⟨zy BK401 0, zy BK401 1, ((HB.out.cell (World.block_lt_of_cell? w _ hw402_0)).trans hw402_0), ((HB.out.cell (World.block_lt_of_cell? w _ hw402_1)).trans hw402_1), ((HB.out.cell (World.block_lt_of_cell? w _ hw403_0)).trans hw403_0), ((HB.out.cell (World.block_lt_of_cell? w _ hw403_1)).trans hw403_1)⟩ (fun hHeld => ?_); refine with_tabW agoniclaw05_Rose_made.tab6 agoniclaw05_Rose_made.bits6 (fun HT_ HW_ => ?_)
        generalize wr.drew = w10 at HO_3 BK401 HB hx402_0 hx402_1 hx403_0 hx403_1 hHeld ⊢
        refine pq HT_ 0 23 27 1 ?_
        refine pq HT_ 1 24 27 3 ?_
        refine pq HT_ 2 25 27 7 ?_
        refine pq HT_ 4 27 27 23 ?_
        refine pq HT_ 11 34 27 2071 ?_
        refine pq HT_ 13 36 27 10263 ?_
        refine pq HT_ 18 41 27 272407 ?_
        refine pq HT_ 19 42 27 796695 ?_
        refine pq HT_ 20 43 27 1845271 ?_
        refine pq HT_ 22 45 27 6039575 ?_
        refine take_ (i := 3) (N := some 26) (v := ?_) (a' := ?_) #[true, true, true, true, true, false, false, false, false, false, false, true, false, true, false, false, false, false, true, true, true, false, true, false, false, false, false] rfl rfl (take_ofW HT_.out HW_.out (by kernel_rfl)) (fun _ _ _ h => h) (Or.inl ⟨by rfl, ?_⟩) hHeld ?_ ?_
        rotate_left
        ·rintro w' ⟨s0, s1, s2, s3, s4, s5⟩
         go_simp
         with_reducible rfl
        rotate_left
        ·simp only [Act.put, List.setIfInBounds_toArray, List.set_cons_zero, List.set_cons_succ, i64_w, i32_w]
         rfl
        refine pq HT_ 5 28 27 6039615 ?_
        refine pq HT_ 6 29 27 6039679 ?_
        refine take_ (i := 7) (N := some 30) (v := ?_) (a' := ?_) #[true, true, true, true, true, true, true, true, false, false, false, true, false, true, false, false, false, false, true, true, true, false, true, false, false, false, false] rfl rfl (take_ofW HT_.out HW_.out (by kernel_rfl)) (fun _ _ _ h => h) (Or.inl ⟨by rfl, ?_⟩) hHeld ?_ ?_
        rotate_left
        ·rintro w' ⟨s0, s1, s2, s3, s4, s5⟩
         go_simp
         with_reducible rfl
        rotate_left
        ·simp only [Act.put, List.setIfInBounds_toArray, List.set_cons_zero, List.set_cons_succ, i64_w, i32_w]
         rfl
        refine pq HT_ 8 31 27 6040063 ?_
        refine pq HT_ 9 32 27 6040575 ?_
        refine pq HT_ 10 33 27 6041599 ?_
        refine take_ (i := 12) (N := some 35) (v := ?_) (a' := ?_) #[true, true, true, true, true, true, true, true, true, true, true, true, true, true, false, false, false, false, true, true, true, false, true, false, false, false, false] rfl rfl (take_ofW HT_.out HW_.out (by kernel_rfl)) (fun _ _ _ h => h) (Or.inl ⟨by rfl, ?_⟩) hHeld ?_ ?_
        rotate_left
        ·rintro w' ⟨s0, s1, s2, s3, s4, s5⟩
         go_simp
         with_reducible rfl
        rotate_left
        ·simp only [Act.put, List.setIfInBounds_toArray, List.set_cons_zero, List.set_cons_succ, i64_w, i32_w]
         rfl
        refine pq HT_ 14 37 27 6062079 ?_
        refine pq HT_ 15 38 27 6094847 ?_
        refine take_ (i := 16) (N := some 39) (v := ?_) (a' := ?_) #[true, true, true, true, true, true, true, true, true, true, true, true, true, true, true, true, true, false, true, true, true, false, true, false, false, false, false] rfl rfl (take_ofW HT_.out HW_.out (by kernel_rfl)) (fun _ _ _ h => h) (Or.inl ⟨by rfl, ?_⟩) hHeld ?_ ?_
        rotate_left
        ·rintro w' ⟨s0, s1, s2, s3, s4, s5⟩
         go_simp
         with_reducible rfl
        rotate_left
        ·simp only [Act.put, List.setIfInBounds_toArray, List.set_cons_zero, List.set_cons_succ, i64_w, i32_w]
         rfl
        refine pq HT_ 17 40 27 6291455 ?_
        refine pq HT_ 21 44 27 8388607 ?_
        refine pq HT_ 23 46 27 16777215 ?_
        refine pq HT_ 24 47 27 33554431 ?_
        refine one_ (i := 25) (N := some 6) #[true, true, true, true, true, true, true, true, true, true, true, true, true, true, true, true, true, true, true, true, true, true, true, true, true, true, false] rfl rfl (one_of HT_.out (by kernel_rfl)) (by decide) (fun K hK => ?_)
        refine box_step ?hg (N := 6) ?hd (cs := #[.int .i64 0, .int .i64 0]) (t := 55) ?hr ?_; (case hd => rfl); (case hg => rfl); (case hr => first | (go_simp; done) | (go_simp; rfl))
        intro gb404 hg w11 hbox hb
        replace HO_3 := Aside0.mk (Kd.R_below (Kd.R_elderB (zo HO_3.out) gb404 (Nat.le_of_eq hg.symm)) hb)
        have BK404 := Aside0.mk (hbox)
        have GW404 := zG w hg
        have GE404 := zG w hg
        replace HB := zd hb
        have NB401_404 := zN BK401 hg
        have NB404_401 := zM BK401 hg
        replace BK401 := zk BK401 hb
        clear hb hbox hg
        refine hK.out _ _ ⟨zy BK401 0, zy BK401 1, ((HB.out.cell (World.block_lt_of_cell? w _ hw402_0)).trans hw402_0), ((HB.out.cell (World.block_lt_of_cell? w _ hw402_1)).trans hw402_1), ((HB.out.cell (World.block_lt_of_cell? w _ hw403_0)).trans hw403_0), ((HB.out.cell (World.block_lt_of_cell? w _ hw403_1)).trans hw403_1)⟩ (fun hHeld => ?_)
        clear hK K
        refine norm_ (a' := ?_) ?_ ?_
        rotate_left
        ·show Act.put _ (some 6) _ = _
         simp only [Act.put, List.setIfInBounds_toArray, List.set_cons_zero, List.set_cons_succ, i64_w, i32_w]
         rfl
        refine one_ (i := 26) (N := none) #[true, true, true, true, true, true, true, true, true, true, true, true, true, true, true, true, true, true, true, true, true, true, true, true, true, true, true] rfl rfl (one_of HT_.out (by kernel_rfl)) (by decide) (fun K hK => ?_)
        have hs12 : w11.cell? ⟨gb404, 0, none⟩ = some (.int .i64 0) := zy BK404 0
        have hfs12 := blk_frozen BK404.out 0
        have hns12_0 := NB401_404.out
        have hms12_0 := NB404_401.out
        have hs13 : w11.cell? ⟨gb404, 1, none⟩ = some (.int .i64 0) := zy BK404 1
        have hfs13 := blk_frozen BK404.out 1
        have hns13_0 := NB401_404.out
        have hms13_0 := NB404_401.out
        refine skip_ (w1 := ?_) (by rfl) rfl ?_ ?_
        rotate_left
        ·go_simp
         rfl
        refine hK.out _ _ ⟨((cell_far (p := ⟨gb404, _, none⟩) NB401_404.out _).trans (((cell_far (p := ⟨gb404, _, none⟩) NB401_404.out _).trans (hHeld.1)))), ((cell_far (p := ⟨gb404, _, none⟩) NB401_404.out _).trans (((cell_far (p := ⟨gb404, _, none⟩) NB401_404.out _).trans (hHeld.2.1)))), ((cell_far (p := ⟨gb404, _, none⟩) (by first | exact Nat.ne_of_lt (Nat.lt_of_lt_of_le (zv hw402_0) GW404.out) | (rw [add_block]; exact Nat.ne_of_lt (Nat.lt_of_lt_of_le (zv hw402_0) GW404.out)) | (show (Addr.add _ _).block ≠ _; rw [add_block]; exact Nat.ne_of_lt (Nat.lt_of_lt_of_le (zv hw402_0) GW404.out)) | (dsimp only; exact Nat.ne_of_lt (Nat.lt_of_lt_of_le (zv hw402_0) GW404.out))) _).trans (((cell_far (p := ⟨gb404, _, none⟩) (by first | exact Nat.ne_of_lt (Nat.lt_of_lt_of_le (zv hw402_0) GW404.out) | (rw [add_block]; exact Nat.ne_of_lt (Nat.lt_of_lt_of_le (zv hw402_0) GW404.out)) | (show (Addr.add _ _).block ≠ _; rw [add_block]; exact Nat.ne_of_lt (Nat.lt_of_lt_of_le (zv hw402_0) GW404.out)) | (dsimp only; exact Nat.ne_of_lt (Nat.lt_of_lt_of_le (zv hw402_0) GW404.out))) _).trans (hHeld.2.2.1)))), ((cell_far (p := ⟨gb404, _, none⟩) (by first | exact Nat.ne_of_lt (Nat.lt_of_lt_of_le (zv hw402_1) GW404.out) | (rw [add_block]; exact Nat.ne_of_lt (Nat.lt_of_lt_of_le (zv hw402_1) GW404.out)) | (show (Addr.add _ _).block ≠ _; rw [add_block]; exact Nat.ne_of_lt (Nat.lt_of_lt_of_le (zv hw402_1) GW404.out)) | (dsimp only; exact Nat.ne_of_lt (Nat.lt_of_lt_of_le (zv hw402_1) GW404.out))) _).trans (((cell_far (p := ⟨gb404, _, none⟩) (by first | exact Nat.ne_of_lt (Nat.lt_of_lt_of_le (zv hw402_1) GW404.out) | (rw [add_block]; exact Nat.ne_of_lt (Nat.lt_of_lt_of_le (zv hw402_1) GW404.out)) | (show (Addr.add _ _).block ≠ _; rw [add_block]; exact Nat.ne_of_lt (Nat.lt_of_lt_of_le (zv hw402_1) GW404.out)) | (dsimp only; exact Nat.ne_of_lt (Nat.lt_of_lt_of_le (zv hw402_1) GW404.out))) _).trans (hHeld.2.2.2.1)))), ((cell_far (p := ⟨gb404, _, none⟩) (by first | exact Nat.ne_of_lt (Nat.lt_of_lt_of_le (zv hw403_0) GW404.out) | (rw [add_block]; exact Nat.ne_of_lt (Nat.lt_of_lt_of_le (zv hw403_0) GW404.out)) | (show (Addr.add _ _).block ≠ _; rw [add_block]; exact Nat.ne_of_lt (Nat.lt_of_lt_of_le (zv hw403_0) GW404.out)) | (dsimp only; exact Nat.ne_of_lt (Nat.lt_of_lt_of_le (zv hw403_0) GW404.out))) _).trans (((cell_far (p := ⟨gb404, _, none⟩) (by first | exact Nat.ne_of_lt (Nat.lt_of_lt_of_le (zv hw403_0) GW404.out) | (rw [add_block]; exact Nat.ne_of_lt (Nat.lt_of_lt_of_le (zv hw403_0) GW404.out)) | (show (Addr.add _ _).block ≠ _; rw [add_block]; exact Nat.ne_of_lt (Nat.lt_of_lt_of_le (zv hw403_0) GW404.out)) | (dsimp only; exact Nat.ne_of_lt (Nat.lt_of_lt_of_le (zv hw403_0) GW404.out))) _).trans (hHeld.2.2.2.2.1)))), ((cell_far (p := ⟨gb404, _, none⟩) (by first | exact Nat.ne_of_lt (Nat.lt_of_lt_of_le (zv hw403_1) GW404.out) | (rw [add_block]; exact Nat.ne_of_lt (Nat.lt_of_lt_of_le (zv hw403_1) GW404.out)) | (show (Addr.add _ _).block ≠ _; rw [add_block]; exact Nat.ne_of_lt (Nat.lt_of_lt_of_le (zv hw403_1) GW404.out)) | (dsimp only; exact Nat.ne_of_lt (Nat.lt_of_lt_of_le (zv hw403_1) GW404.out))) _).trans (((cell_far (p := ⟨gb404, _, none⟩) (by first | exact Nat.ne_of_lt (Nat.lt_of_lt_of_le (zv hw403_1) GW404.out) | (rw [add_block]; exact Nat.ne_of_lt (Nat.lt_of_lt_of_le (zv hw403_1) GW404.out)) | (show (Addr.add _ _).block ≠ _; rw [add_block]; exact Nat.ne_of_lt (Nat.lt_of_lt_of_le (zv hw403_1) GW404.out)) | (dsimp only; exact Nat.ne_of_lt (Nat.lt_of_lt_of_le (zv hw403_1) GW404.out))) _).trans (hHeld.2.2.2.2.2))))⟩ (fun hHeld => ?_)
        clear hK K
        refine done_ (done_of HT_.out (by kernel_rfl)) ?_
        have hnb14 := NB404_401.out
        have hnc14 := NB401_404.out
        have hcz15_0 : w11.cell? ⟨gb404, 0, none⟩ = some (.int .i64 0) := zy BK404 0
        have hcz15_1 : w11.cell? ⟨gb404, 1, none⟩ = some (.int .i64 0) := zy BK404 1
        have hfz15_0 := blk_frozen BK404.out 0
        have hfz15_1 := blk_frozen BK404.out 1
        try go_wp2_with (first | ((with_reducible refine gate_builtin (b := .append) (xs := #[.tmp 48, .tmp 50]) rfl ?_); at_builtin; refine Kd.R_append k55 (w0 := w) w.heap.size rfl (.tmp 48) (.tmp 50) 23 55 (.agg #[(.int .i64 0), (.int .i64 0)]) 16 rfl Try.underlying23 info55 rfl (by decide) (by omega) u3 x3_1 (⟨wrap64 ((wrap64 (720 * x5_1)) + (Int.tmod (wrap64 ((rd_T81 l0_0 x5_1).f0)) 720)), wrap64 ((Int.tmod (wrap64 ((rd_T81 l0_0 x5_1).f1)) (wrap64 ((wrap64 (2 * (wrap64 (20 + (wrap64 (3 * (wrap64 (a0_1)))))))) + 1))) - (wrap64 (20 + (wrap64 (3 * (wrap64 (a0_1)))))))⟩ : S55) [.int .i64 (wrap64 ((wrap64 (720 * x5_1)) + (Int.tmod (wrap64 ((rd_T81 l0_0 x5_1).f0)) 720))), .int .i64 (wrap64 ((Int.tmod (wrap64 ((rd_T81 l0_0 x5_1).f1)) (wrap64 ((wrap64 (2 * (wrap64 (20 + (wrap64 (3 * (wrap64 (a0_1)))))))) + 1))) - (wrap64 (20 + (wrap64 (3 * (wrap64 (a0_1))))))))] (fun k_ => k_ ≠ gb404) (fun _ => False) rfl (by first | (go_simp; done) | (go_simp; rfl)) ?aP (fun _ hk => hk.elim) ?aF ?aO ?aB ?aS ?aL ?_; (case aP => exact k55_mkM _ _ _ (⟨wrap64 ((wrap64 (720 * x5_1)) + (Int.tmod (wrap64 ((rd_T81 l0_0 x5_1).f0)) 720)), wrap64 ((Int.tmod (wrap64 ((rd_T81 l0_0 x5_1).f1)) (wrap64 ((wrap64 (2 * (wrap64 (20 + (wrap64 (3 * (wrap64 (a0_1)))))))) + 1))) - (wrap64 (20 + (wrap64 (3 * (wrap64 (a0_1)))))))⟩ : S55)); (case aB => exact zh); (case aF => exact (fun k_ hk => Kd.freshB (g := gb404) (o := .cells #[.int .i64 (wrap64 ((wrap64 (720 * x5_1)) + (Int.tmod (wrap64 ((rd_T81 l0_0 x5_1).f0)) 720))), .int .i64 (wrap64 ((Int.tmod (wrap64 ((rd_T81 l0_0 x5_1).f1)) (wrap64 ((wrap64 (2 * (wrap64 (20 + (wrap64 (3 * (wrap64 (a0_1)))))))) + 1))) - (wrap64 (20 + (wrap64 (3 * (wrap64 (a0_1))))))))] 55 (0, 0)) (by refine zm ?_; refine blk_put (cs := #[.int .i64 (wrap64 ((wrap64 (720 * x5_1)) + (Int.tmod (wrap64 ((rd_T81 l0_0 x5_1).f0)) 720))), .int .i64 0]) ?_ 1 _ rfl; refine zm ?_; refine blk_put (cs := #[.int .i64 0, .int .i64 0]) ?_ 0 _ rfl; refine zm ?_; exact BK404.out) k_ hk)); (case aO => exact (by refine zl ?_; exact Kd.R_mono (Kd.R_far (p := ⟨gb404, 1, none⟩) (Kd.R_far (p := ⟨gb404, 0, none⟩) (Kd.R_mono HO_3.out (fun k_ hk => (⟨hk, hk.2⟩ : _ ∧ k_ ≠ gb404))) (fun _ hk => hk.2) (.int .i64 (wrap64 ((wrap64 (720 * x5_1)) + (Int.tmod (wrap64 ((rd_T81 l0_0 x5_1).f0)) 720))))) (fun _ hk => hk.2) (.int .i64 (wrap64 ((Int.tmod (wrap64 ((rd_T81 l0_0 x5_1).f1)) (wrap64 ((wrap64 (2 * (wrap64 (20 + (wrap64 (3 * (wrap64 (a0_1)))))))) + 1))) - (wrap64 (20 + (wrap64 (3 * (wrap64 (a0_1)))))))))) (fun _ hk => hk.1.2))); (case aS => exact (below_size zh)); (case aL => have := LMc8.out; omega); intro v406 w16 ho hb hg hat; rw [← Ny405.out] at ho; replace BK401 := Aside0.mk (blk_grown (g := gb401) (o := .cells #[.slice (some ad402) l0_0.length c0_0, .int .u8 a0_1] 72 (0, 0)) (by refine zm ?_; refine blk_far ?_ NB401_404.out _; refine zm ?_; refine blk_far ?_ NB401_404.out _; refine zm ?_; exact BK401.out) hg (Kd.R_ne HO_3.out BK401.out (by decide))); replace HB := Aside0.mk (hb); have HO407 := Aside0.mk (ho); clear HO_3; clear ho hb hg hat))
        go_roundg k1
        case measure => have := HK1.out; omega
        case rel => exact ⟨(y405), (wrap64 (x5_1 + 1)), (by first | rfl | (simp; done) | (simp [*]; done)), H', ⟨by have := HK1.out; omega⟩, ⟨by refine zl ?_; exact Kd.R_mono HO407.out (fun _ hk => trivial)⟩, ⟨by refine zm ?_; exact BK401.out⟩, ⟨zh⟩⟩
       ·rw [if_neg c8] at H
        exact absurd H (by simp)
     ·rw [if_neg c6] at H
      exact absurd H (by simp)
    ·rw [if_neg c5] at H
     have c5b0 : decide (x5_1 < 5) = false := decide_eq_false c5
     clear c5
     by_cases c17 : (x3_1.length : Int) = 0
     ·rw [if_pos c17] at H
      have c17b0 : ((x3_1.length : Int) == 0) = true := beq_iff_eq.mpr c17
      have c17b1 : ((x3_1.length : Int) != 0) = false := bne_eq_false_iff_eq.mpr c17
      clear c17
      by_cases c18 : x3_1.length < 8796093022208
      ·rw [if_pos c18] at H
       have LMc18 := Aside0.mk c18
       clear c18
       obtain ⟨y408, hy408⟩ : ∃ y_ : List (S55), y_ = (x3_1 ++ [(⟨7, wrap64 (a0_1)⟩ : S55)]) := ⟨_, rfl⟩
       replace H : (some y408) = some r := by first | (rw [hy408]; with_reducible exact H) | (have H2_ := (Option.bind_some _ _).symm.trans H; rw [hy408]; with_reducible exact H2_) | (have H2_ := (Option.bind_some _ _).symm.trans H; with_reducible exact H2_) | with_reducible exact H | (rw [hy408]; exact H) | exact H
       have Ny408 := Aside0.mk hy408
       clear hy408
       obtain rfl := Option.some.inj H
       have hcz19_0 : wr.cell? ⟨gb401, 0, none⟩ = some (.slice A0_0 l0_0.length c0_0) := zy BK401 0
       have hcz19_1 : wr.cell? ⟨gb401, 1, none⟩ = some (.int .u8 a0_1) := zy BK401 1
       have hfz19_0 := blk_frozen BK401.out 0
       have hfz19_1 := blk_frozen BK401.out 1
       obtain ⟨Ao20, co20, eo20⟩ := Kd.R_slice HO_3.out
       subst eo20
       go_wp2_with (first | ((with_reducible refine gate_builtin (b := .append) (xs := #[.tmp 55, .tmp 60]) rfl ?_); at_builtin; refine Kd.R_append k55 (w0 := w) w.heap.size rfl (.tmp 55) (.tmp 60) 23 55 (.agg #[(.int .i64 0), (.int .i64 0)]) 16 rfl Try.underlying23 info55 rfl (by decide) (by omega) (.slice Ao20 x3_1.length co20) x3_1 (⟨7, wrap64 (a0_1)⟩ : S55) [.int .i64 7, .int .i64 (wrap64 (a0_1))] (fun _ => True) (fun _ => False) rfl rfl ?aP (fun _ hk => hk.elim) ?aF ?aO ?aB ?aS ?aL ?_; (case aP => exact k55_mkM _ _ _ (⟨7, wrap64 (a0_1)⟩ : S55)); (case aB => exact zh); (case aF => exact (fun _ _ => trivial)); (case aO => exact (zo HO_3.out)); (case aS => exact (below_size zh)); (case aL => have := LMc18.out; omega); intro v409 w21 ho hb hg hat; rw [← Ny408.out] at ho; replace HB := Aside0.mk (hb); have HO410 := Aside0.mk (ho); clear HO_3; clear ho hb hg hat))
       go_ret
       exact ⟨_, ze, by refine zl ?_; exact HO410.out, zh⟩
      ·rw [if_neg c18] at H
       exact absurd H (by simp)
     ·rw [if_neg c17] at H
      have c17b0 : ((x3_1.length : Int) == 0) = false := beq_eq_false_iff_ne.mpr c17
      have c17b1 : ((x3_1.length : Int) != 0) = true := bne_iff_ne.mpr c17
      have c17b2 : ¬ (x3_1 = []) := fun h_ => c17 (by rw [h_]; rfl)
      obtain rfl := Option.some.inj H
      have hcz22_0 : wr.cell? ⟨gb401, 0, none⟩ = some (.slice A0_0 l0_0.length c0_0) := zy BK401 0
      have hcz22_1 : wr.cell? ⟨gb401, 1, none⟩ = some (.int .u8 a0_1) := zy BK401 1
      have hfz22_0 := blk_frozen BK401.out 0
      have hfz22_1 := blk_frozen BK401.out 1
      obtain ⟨Ao23, co23, eo23⟩ := Kd.R_slice HO_3.out
      subst eo23
      go_wp2
      go_ret
      exact ⟨_, ze, by refine zl ?_; exact HO_3.out, zh⟩
   ·rw [if_neg c4] at H
    have c4b0 : decide (x5_1 < (l0_0.length : Int)) = false := decide_eq_false c4
    clear c4
    by_cases c24 : (x3_1.length : Int) = 0
    ·rw [if_pos c24] at H
     have c24b0 : ((x3_1.length : Int) == 0) = true := beq_iff_eq.mpr c24
     have c24b1 : ((x3_1.length : Int) != 0) = false := bne_eq_false_iff_eq.mpr c24
     clear c24
     by_cases c25 : x3_1.length < 8796093022208
     ·rw [if_pos c25] at H
      have LMc25 := Aside0.mk c25
      clear c25
      obtain ⟨y411, hy411⟩ : ∃ y_ : List (S55), y_ = (x3_1 ++ [(⟨7, wrap64 (a0_1)⟩ : S55)]) := ⟨_, rfl⟩
      replace H : (some y411) = some r := by first | (rw [hy411]; with_reducible exact H) | (have H2_ := (Option.bind_some _ _).symm.trans H; rw [hy411]; with_reducible exact H2_) | (have H2_ := (Option.bind_some _ _).symm.trans H; with_reducible exact H2_) | with_reducible exact H | (rw [hy411]; exact H) | exact H
      have Ny411 := Aside0.mk hy411
      clear hy411
      obtain rfl := Option.some.inj H
      have hcz26_0 : wr.cell? ⟨gb401, 0, none⟩ = some (.slice A0_0 l0_0.length c0_0) := zy BK401 0
      have hcz26_1 : wr.cell? ⟨gb401, 1, none⟩ = some (.int .u8 a0_1) := zy BK401 1
      have hfz26_0 := blk_frozen BK401.out 0
      have hfz26_1 := blk_frozen BK401.out 1
      obtain ⟨Ao27, co27, eo27⟩ := Kd.R_slice HO_3.out
      subst eo27
      go_wp2_with (first | ((with_reducible refine gate_builtin (b := .append) (xs := #[.tmp 55, .tmp 60]) rfl ?_); at_builtin; refine Kd.R_append k55 (w0 := w) w.heap.size rfl (.tmp 55) (.tmp 60) 23 55 (.agg #[(.int .i64 0), (.int .i64 0)]) 16 rfl Try.underlying23 info55 rfl (by decide) (by omega) (.slice Ao27 x3_1.length co27) x3_1 (⟨7, wrap64 (a0_1)⟩ : S55) [.int .i64 7, .int .i64 (wrap64 (a0_1))] (fun _ => True) (fun _ => False) rfl rfl ?aP (fun _ hk => hk.elim) ?aF ?aO ?aB ?aS ?aL ?_; (case aP => exact k55_mkM _ _ _ (⟨7, wrap64 (a0_1)⟩ : S55)); (case aB => exact zh); (case aF => exact (fun _ _ => trivial)); (case aO => exact (zo HO_3.out)); (case aS => exact (below_size zh)); (case aL => have := LMc25.out; omega); intro v412 w28 ho hb hg hat; rw [← Ny411.out] at ho; replace HB := Aside0.mk (hb); have HO413 := Aside0.mk (ho); clear HO_3; clear ho hb hg hat))
      go_ret
      exact ⟨_, ze, by refine zl ?_; exact HO413.out, zh⟩
     ·rw [if_neg c25] at H
      exact absurd H (by simp)
    ·rw [if_neg c24] at H
     have c24b0 : ((x3_1.length : Int) == 0) = false := beq_eq_false_iff_ne.mpr c24
     have c24b1 : ((x3_1.length : Int) != 0) = true := bne_iff_ne.mpr c24
     have c24b2 : ¬ (x3_1 = []) := fun h_ => c24 (by rw [h_]; rfl)
     obtain rfl := Option.some.inj H
     have hcz29_0 : wr.cell? ⟨gb401, 0, none⟩ = some (.slice A0_0 l0_0.length c0_0) := zy BK401 0
     have hcz29_1 : wr.cell? ⟨gb401, 1, none⟩ = some (.int .u8 a0_1) := zy BK401 1
     have hfz29_0 := blk_frozen BK401.out 0
     have hfz29_1 := blk_frozen BK401.out 1
     obtain ⟨Ao30, co30, eo30⟩ := Kd.R_slice HO_3.out
     subst eo30
     go_wp2
     go_ret
     exact ⟨_, ze, by refine zl ?_; exact HO_3.out, zh⟩
def agoniclaw05_fit.f (a0_0 : Int) (a0_1 : Int) (a1 : Int) : Option (Bool) := if a0_1 ≥ 1 then (if a0_1 ≤ 6000 then (if a0_0 ≥ 0 then (some (decide (a0_0 < (wrap64 (a1 * a0_1))))) else (some false)) else (some false)) else (some false)
set_option maxHeartbeats 8000000 in
set_option maxRecDepth 100000 in
theorem agoniclaw05_fit.calls (a0_0 : Int) (a0_1 : Int) (a1 : Int) (r : Bool) (w : World) (h : agoniclaw05_fit.f a0_0 a0_1 a1 = some r) :
  Calls Try.prog 39 #[.agg #[.int .i64 a0_0, .int .i64 a0_1], .int .i64 a1] w fun e w' => e = .returned (.bool r) ∧ Below w.heap.size w w' := by
 have hu29 := Try.underlying29
 have HB := Aside0.mk (Below.refl w.heap.size w)
 have H : (if a0_1 ≥ 1 then (if a0_1 ≤ 6000 then (if a0_0 ≥ 0 then (some (decide (a0_0 < (wrap64 (a1 * a0_1))))) else (some false)) else (some false)) else (some false)) = some r := h
 clear h
 by_cases c3 : a0_1 ≥ 1
 ·rw [if_pos c3] at H
  have c3b0 : decide (1 ≤ a0_1) = true := decide_eq_true c3
  clear c3
  by_cases c4 : a0_1 ≤ 6000
  ·rw [if_pos c4] at H
   have c4b0 : decide (a0_1 ≤ 6000) = true := decide_eq_true c4
   clear c4
   by_cases c5 : a0_0 ≥ 0
   ·rw [if_pos c5] at H
    have c5b0 : decide (0 ≤ a0_0) = true := decide_eq_true c5
    clear c5
    obtain rfl := Option.some.inj H
    go_enter Try.func39, Try.ntmps39
    go_wp2_with (first | ((with_reducible refine gD 2 rfl ?_); refine zx 2 #[.int .i64 a0_0, .int .i64 a0_1] 29 ?_; intro gb414 hg w6 hbox hb; have BK414 := Aside0.mk (hbox); have GE414 := zG w hg; replace HB := zd hb; clear hb hbox hg; have hcz7_0 : w6.cell? ⟨gb414, 0, none⟩ = some (.int .i64 a0_0) := zy BK414 0; have hcz7_1 : w6.cell? ⟨gb414, 1, none⟩ = some (.int .i64 a0_1) := zy BK414 1; have hfz7_0 := blk_frozen BK414.out 0; have hfz7_1 := blk_frozen BK414.out 1))
    go_ret
    exact ⟨ze, zh⟩
   ·rw [if_neg c5] at H
    have c5b0 : decide (0 ≤ a0_0) = false := decide_eq_false c5
    clear c5
    obtain rfl := Option.some.inj H
    go_enter Try.func39, Try.ntmps39
    go_wp2_with (first | ((with_reducible refine gD 2 rfl ?_); refine zx 2 #[.int .i64 a0_0, .int .i64 a0_1] 29 ?_; intro gb414 hg w8 hbox hb; have BK414 := Aside0.mk (hbox); have GE414 := zG w hg; replace HB := zd hb; clear hb hbox hg; have hcz9_0 : w8.cell? ⟨gb414, 0, none⟩ = some (.int .i64 a0_0) := zy BK414 0; have hcz9_1 : w8.cell? ⟨gb414, 1, none⟩ = some (.int .i64 a0_1) := zy BK414 1; have hfz9_0 := blk_frozen BK414.out 0; have hfz9_1 := blk_frozen BK414.out 1))
    go_ret
    exact ⟨ze, zh⟩
  ·rw [if_neg c4] at H
   have c4b0 : decide (a0_1 ≤ 6000) = false := decide_eq_false c4
   clear c4
   obtain rfl := Option.some.inj H
   go_enter Try.func39, Try.ntmps39
   go_wp2_with (first | ((with_reducible refine gD 2 rfl ?_); refine zx 2 #[.int .i64 a0_0, .int .i64 a0_1] 29 ?_; intro gb414 hg w10 hbox hb; have BK414 := Aside0.mk (hbox); have GE414 := zG w hg; replace HB := zd hb; clear hb hbox hg; have hcz11_0 : w10.cell? ⟨gb414, 0, none⟩ = some (.int .i64 a0_0) := zy BK414 0; have hcz11_1 : w10.cell? ⟨gb414, 1, none⟩ = some (.int .i64 a0_1) := zy BK414 1; have hfz11_0 := blk_frozen BK414.out 0; have hfz11_1 := blk_frozen BK414.out 1))
   go_ret
   exact ⟨ze, zh⟩
 ·rw [if_neg c3] at H
  have c3b0 : decide (1 ≤ a0_1) = false := decide_eq_false c3
  clear c3
  obtain rfl := Option.some.inj H
  go_enter Try.func39, Try.ntmps39
  go_wp2_with (first | ((with_reducible refine gD 2 rfl ?_); refine zx 2 #[.int .i64 a0_0, .int .i64 a0_1] 29 ?_; intro gb414 hg w12 hbox hb; have BK414 := Aside0.mk (hbox); have GE414 := zG w hg; replace HB := zd hb; clear hb hbox hg; have hcz13_0 : w12.cell? ⟨gb414, 0, none⟩ = some (.int .i64 a0_0) := zy BK414 0; have hcz13_1 : w12.cell? ⟨gb414, 1, none⟩ = some (.int .i64 a0_1) := zy BK414 1; have hfz13_0 := blk_frozen BK414.out 0; have hfz13_1 := blk_frozen BK414.out 1))
  go_ret
  exact ⟨ze, zh⟩
end Go.Proofs.Ytccjefoejjnccaa.C
