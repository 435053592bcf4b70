-- Written by a program of this session (wip/tools/myprint.py, over the kit's print).
import Derived.Test.YtccjefoejjnccaaC0
import Derived.Test.YtccjefoejjnccaaC7
import Derived.Test.YtccjefoejjnccaaC8
import Derived.Test.YtccjefoejjnccaaC9
import Derived.Test.YtccjefoejjnccaaZ
namespace Go.Proofs.Ytccjefoejjnccaa.C
open Go.RowKit Go.Proofs.YtccjefoejjnccaaW.PrintWords Go.Proofs.YtccjefoejjnccaaW.PrintLast Go.Proofs.YtccjefoejjnccaaW.PrintMore
attribute [local go_sem] max2_int min2_int max_two min_two max_three min_three max_four min_four   -- for this text's walks alone
set_option linter.unusedVariables false
set_option linter.unusedSimpArgs false
mutual
def agonicref05_deviation.j0 : Nat → List (S54) → Int → Int → Option (Int × Int)
 | 0, _, _, _ => none
 | k + 1, x0, x208000, x208001 => agonicref05_deviation.l0 k x0 0 x208000 x208001
def agonicref05_deviation.l0 : Nat → List (S54) → Int → Int → Int → Option (Int × Int)
 | 0, _, _, _, _ => none
 | k + 1, x0, x5, x208000, x208001 => if x5 < (x0.length : Int) then ((agonicref05_segment.f x0 x5).bind fun bt215 => ((agonicref05_whole.f bt215.1).bind fun bt221 => ((agonicref01_Less.f x208000 x208001 bt221.1 bt221.2).bind fun t223 => (if t223 = true then (agonicref05_deviation.j2 k x0 x5 true x208000 x208001 bt215.1 bt215.2.1 bt215.2.2.1 bt215.2.2.2) else ((agonicref05_whole.f bt215.2.2.1).bind fun bt224 => ((agonicref01_Less.f x208000 x208001 bt224.1 bt224.2).bind fun t226 => (agonicref05_deviation.j2 k x0 x5 (!t226) x208000 x208001 bt215.1 bt215.2.1 bt215.2.2.1 bt215.2.2.2))))))) else ((agonicref05_whole.f 0).bind fun bt213 => (some (bt213.1, bt213.2)))
def agonicref05_deviation.j2 : Nat → List (S54) → Int → Bool → Int → Int → Int → Int → Int → Int → Option (Int × Int)
 | 0, _, _, _, _, _, _, _, _, _ => none
 | k + 1, x0, x5, x47, x208000, x208001, x220000, x220001, x221000, x221001 => if x47 = true then (agonicref05_deviation.l0 k x0 (wrap64 (x5 + 1)) x208000 x208001) else ((agonicref01_Reduced.f k (wrap64 ((wrap64 (x221001 - x220001)) * (wrap64 (x208000 - (wrap64 (x220000 * x208001)))))) (wrap64 ((wrap64 (x221000 - x220000)) * x208001))).bind fun bt227 => ((agonicref05_whole.f x220001).bind fun bt230 => ((agonicref05_Plus.f k bt230.1 bt230.2 bt227.1 bt227.2).bind fun bt232 => (some (bt232.1, bt232.2)))))
end
def agonicref05_deviation.f (k : Nat) (l0 : List (S54)) (a1_0 : Int) (a1_1 : Int) : Option (Int × Int) := if 0 < (l0.length : Int) then ((agonicref05_whole.f ((rd_T54 l0 0).f0)).bind fun bt210 => ((agonicref01_Less.f a1_0 a1_1 bt210.1 bt210.2).bind fun t212 => (if t212 = true then (agonicref05_deviation.j0 k l0 (wrap64 (a1_0 + (wrap64 (3600 * a1_1)))) a1_1) else (agonicref05_deviation.j0 k l0 a1_0 a1_1)))) else (none)
def agonicref05_deviation.T7 : Bool × List (List Nat × List Nat) := (true, [([], []), ([], []), ([1], [1]), ([2], [2]), ([0, 3, 3], [0, 3]), ([4, 4], [4]), ([5], [5]), ([5], [5]), ([7, 5], [5, 7]), ([8, 5, 5], [5, 8]), ([6, 9, 9, 5], [5, 6, 9]), ([10, 5], [5, 10]), ([5, 11], [5, 11])])
def agonicref05_deviation.B7 : List Nat := [0, 0, 2, 6, 15, 31, 63, 63, 191, 447, 1023, 2047, 4095]
theorem agonicref05_deviation.tab7 : rtab .any (opsOf Try.f57 7) = agonicref05_deviation.T7 := by kernel_rfl
theorem agonicref05_deviation.bits7 : waitsOk agonicref05_deviation.T7.2 agonicref05_deviation.B7 = true := by kernel_rfl
set_option maxHeartbeats 8000000 in
set_option maxRecDepth 100000 in
theorem agonicref05_deviation.calls (k : Nat) (A0 : Option Addr) (c0 : Nat) (l0 : List (S54)) (a1_0 : Int) (a1_1 : Int) (r1 : Int) (r2 : Int) (w : World) (hr0 : Kd.C k54 w A0 l0.length l0) (hc0 : l0.length ≤ c0) (h : agonicref05_deviation.f k l0 a1_0 a1_1 = some (r1, r2)) :
  Calls Try.prog 57 #[.slice A0 l0.length c0, .agg #[.int .i64 a1_0, .int .i64 a1_1]] w fun e w' => e = .returned (.agg #[.int .i64 r1, .int .i64 r2]) ∧ Below w.heap.size w w' := by
 have hu29 := Try.underlying29
 have hu54 := Try.underlying54
 have HR0 := Aside0.mk hr0
 have HC0 := Aside0.mk hc0
 clear hr0 hc0
 have HB := Aside0.mk (Below.refl w.heap.size w)
 have H : (if 0 < (l0.length : Int) then ((agonicref05_whole.f ((rd_T54 l0 0).f0)).bind fun bt210 => ((agonicref01_Less.f a1_0 a1_1 bt210.1 bt210.2).bind fun t212 => (if t212 = true then (agonicref05_deviation.j0 k l0 (wrap64 (a1_0 + (wrap64 (3600 * a1_1)))) a1_1) else (agonicref05_deviation.j0 k l0 a1_0 a1_1)))) else (none)) = some (r1, r2) := h
 clear h
 by_cases c3 : 0 < (l0.length : Int)
 ·rw [if_pos c3] at H
  have c3b0 : decide (0 < (l0.length : Int)) = true := decide_eq_true c3
  have c3b1 : decide (0 < l0.length) = true := decide_eq_true (by omega)
  clear c3
  replace H := zi H
  obtain ⟨⟨t210, t211⟩, A40, H⟩ := H
  try dsimp only at H
  have A4 := Aside0.mk A40
  clear A40
  replace H := zi H
  obtain ⟨t212, A50, H⟩ := H
  try dsimp only at H
  have A5 := Aside0.mk A50
  clear A50
  have HC6 := Aside0.mk H
  clear H
  go_enter Try.func57, Try.ntmps57
  try go_wp2_with (first | ((with_reducible refine gD 3 rfl ?_); refine zx 3 #[.int .i64 a1_0, .int .i64 a1_1] 29 ?_; intro gb207 hg w7 hbox hb; have BK207 := Aside0.mk (hbox); have GE207 := zG w hg; replace HB := zd hb; clear hb hbox hg) | ((with_reducible refine gD 4 rfl ?_); refine zx 4 #[.int .i64 0, .int .i64 0] 29 ?_; intro gb208 hg w8 hbox hb; have BK208 := Aside0.mk (hbox); have GE208 := zG w hg; replace HB := zd hb; have NB207_208 := zN BK207 hg; have NB208_207 := zM BK207 hg; replace BK207 := zk BK207 hb; clear hb hbox hg))
  replace BK207 := Aside0.mk (blk_drew BK207.out)
  replace BK208 := Aside0.mk (blk_drew BK208.out)
  replace HB := Aside0.mk (below_drew1 HB.out)
  have p209 : 0 ≤ (0 : Int) := (by omega)
  have q209 : 0 < (l0.length : Int) := zp
  obtain ⟨ad209, e209, hx209_0, hx209_1⟩ := at_T54 HR0.out 0 p209 q209
  have hw209_1 := hx209_1
  (try rw [show ((0 : Int)).toNat = 0 from rfl] at hw209_1)
  (try rw [show 0 * 2 = 0 from rfl] at hw209_1)
  (try rw [Addr.add_zero'] at hw209_1)
  have hw209_0 := hx209_0
  (try rw [show ((0 : Int)).toNat = 0 from rfl] at hw209_0)
  (try rw [show 0 * 2 = 0 from rfl] at hw209_0)
  (try rw [Addr.add_zero'] at hw209_0)
  cases e209
  have qi209 : (0 < l0.length) = True := eq_true (by omega)
  (try rw [show ((0 : Int)).toNat = 0 from rfl] at hx209_0)
  (try rw [show 0 * 2 = 0 from rfl] at hx209_0)
  (try rw [Addr.add_zero'] at hx209_0)
  (try rw [show ((0 : Int)).toNat = 0 from rfl] at hx209_1)
  (try rw [show 0 * 2 = 0 from rfl] at hx209_1)
  (try rw [Addr.add_zero'] at hx209_1)
  replace hx209_0 := (HB.out.cell (World.block_lt_of_cell? w _ hx209_0)).trans hx209_0
  replace hx209_1 := (HB.out.cell (World.block_lt_of_cell? w _ hx209_1)).trans hx209_1
  replace p209 := eq_true p209
  replace q209 := eq_true q209
  refine start_ (n := 7) (S := fun w' => w'.cell? ⟨gb207, 0, none⟩ = some (.int .i64 a1_0) ∧ w'.cell? ⟨gb207, 1, none⟩ = some (.int .i64 a1_1) ∧ w'.cell? ad209 = some (.int .i64 ((rd_T54 l0 0).f0)) ∧ w'.cell? ⟨ad209.block, ad209.off + 1, none⟩ = some (.int .i64 ((rd_T54 l0 0).f1))) (ds := []) #[false, false, false, false, false, false, false] (by kernel_rfl) rfl rfl ⟨zy BK207 0, zy BK207 1, ((HB.out.cell (World.block_lt_of_cell? w _ hw209_0)).trans hw209_0), ((HB.out.cell (World.block_lt_of_cell? w _ hw209_1)).trans hw209_1)⟩ (fun hHeld => ?_)
  generalize w8.drew = w9 at BK207 BK208 HB hx209_0 hx209_1 hHeld ⊢
  refine pz (i := 1) (N := some 10) (zA 7 2) rfl rfl (by kernel_rfl) ?_
  refine pz (i := 2) (N := some 11) (zA 7 6) rfl rfl (by kernel_rfl) ?_
  refine pz (i := 3) (N := some 12) (zA 7 14) rfl rfl (by kernel_rfl) ?_
  refine take_ (i := 0) (N := some 9) (v := ?_) (a' := ?_) #[true, true, true, true, false, false, false] rfl rfl (by kernel_rfl) (fun _ _ _ h => h) (Or.inl ⟨by rfl, ?_⟩) hHeld ?_ ?_
  rotate_left
  ·rintro w' ⟨s0, s1, s2, s3⟩
   go_simp
   with_reducible rfl
  rotate_left
  ·simp only [Act.put, List.setIfInBounds_toArray, List.set_cons_zero, List.set_cons_succ, i64_w, i32_w]
   rfl
  refine take_ (i := 4) (N := some 13) (v := ?_) (a' := ?_) #[true, true, true, true, true, false, false] rfl rfl (by kernel_rfl) (fun _ _ _ h => h) (Or.inl ⟨by rfl, ?_⟩) hHeld ?_ ?_
  rotate_left
  ·rintro w' ⟨s0, s1, s2, s3⟩
   go_simp
   with_reducible rfl
  rotate_left
  ·simp only [Act.put, List.setIfInBounds_toArray, List.set_cons_zero, List.set_cons_succ, i64_w, i32_w]
   rfl
  refine one_ (i := 5) (N := some 14) #[true, true, true, true, true, true, false] rfl rfl (by kernel_rfl) (by decide) (fun K hK => ?_)
  refine goes_ Try.func58 (by kernel_rfl) rfl #[.int .i64 ((rd_T54 l0 0).f0)] (by rfl) rfl rfl zs ?_
  with_reducible refine (agonicref05_whole.calls ((rd_T54 l0 0).f0) t210 t211 _ A4.out).mono ?_
  rintro e w10 ⟨rfl, hb⟩
  refine ⟨_, rfl, ?_⟩
  replace BK207 := zk BK207 hb
  replace BK208 := zk BK208 hb
  replace HB := zd hb
  (try clear hb)
  (try clear hb2)
  (try clear hk)
  (try clear hi)
  refine hK.out _ _ ⟨zy BK207 0, zy BK207 1, ((HB.out.cell (World.block_lt_of_cell? w _ hw209_0)).trans hw209_0), ((HB.out.cell (World.block_lt_of_cell? w _ hw209_1)).trans hw209_1)⟩ (fun hHeld => ?_)
  clear hK K
  refine norm_ (a' := ?_) ?_ ?_
  rotate_left
  ·show Act.put _ (some 14) _ = _
   simp only [Act.put, List.setIfInBounds_toArray, List.set_cons_zero, List.set_cons_succ, i64_w, i32_w]
   rfl
  refine one_ (i := 6) (N := some 15) #[true, true, true, true, true, true, true] rfl rfl (by kernel_rfl) (by decide) (fun K hK => ?_)
  refine goes_ Try.func67 (by kernel_rfl) rfl #[.agg #[.int .i64 a1_0, .int .i64 a1_1], .agg #[.int .i64 t210, .int .i64 t211]] (by rfl) rfl rfl zs ?_
  with_reducible refine (agonicref01_Less.calls a1_0 a1_1 t210 t211 t212 _ A5.out).mono ?_
  rintro e w11 ⟨rfl, hb⟩
  refine ⟨_, rfl, ?_⟩
  replace BK207 := zk BK207 hb
  replace BK208 := zk BK208 hb
  replace HB := zd hb
  (try clear hb)
  (try clear hb2)
  (try clear hk)
  (try clear hi)
  refine hK.out _ _ ⟨zy BK207 0, zy BK207 1, ((HB.out.cell (World.block_lt_of_cell? w _ hw209_0)).trans hw209_0), ((HB.out.cell (World.block_lt_of_cell? w _ hw209_1)).trans hw209_1)⟩ (fun hHeld => ?_)
  clear hK K
  refine norm_ (a' := ?_) ?_ ?_
  rotate_left
  ·show Act.put _ (some 15) _ = _
   simp only [Act.put, List.setIfInBounds_toArray, List.set_cons_zero, List.set_cons_succ, i64_w, i32_w]
   rfl
  refine done_ (by kernel_rfl) ?_
  go_upto_if 15 with (fail)
  go_cut [] (fun wc => ∃ (kq : Nat) (x208000_5 : Int), Aside0 (agonicref05_deviation.j0 kq l0 x208000_5 a1_1 = some (r1, r2)) ∧ Aside0 (kq ≤ k) ∧ Aside0 (wc.heap[gb207]? = some (.cells #[.int .i64 x208000_5, .int .i64 a1_1] 29 (0, 0))) ∧ Aside0 (wc.heap[gb208]? = some (.cells #[.int .i64 0, .int .i64 0] 29 (0, 0))) ∧ Aside0 (Below w.heap.size w wc))
  case first =>
   have H := HC6.out
   clear HC6
   by_cases c12 : t212 = true
   ·subst c12
    rw [if_pos rfl] at H
    have H' := Aside0.mk H
    clear H
    have hnb13 := NB207_208.out
    have hnc13 := NB208_207.out
    have hcz14_0 : w11.cell? ⟨gb207, 0, none⟩ = some (.int .i64 a1_0) := zy BK207 0
    have hcz14_1 : w11.cell? ⟨gb207, 1, none⟩ = some (.int .i64 a1_1) := zy BK207 1
    have hfz14_0 := blk_frozen BK207.out 0
    have hfz14_1 := blk_frozen BK207.out 1
    go_wp2
    go_meet
    case rel => exact ⟨_, (wrap64 (a1_0 + (wrap64 (3600 * a1_1)))), H', ⟨by first | omega | exact Nat.le_refl _⟩, ⟨by refine zm ?_; refine blk_put (cs := #[.int .i64 a1_0, .int .i64 a1_1]) ?_ 0 _ rfl; refine zm ?_; exact BK207.out⟩, ⟨by refine zm ?_; refine blk_far ?_ NB208_207.out _; refine zm ?_; exact BK208.out⟩, ⟨zh⟩⟩
   ·replace c12 := Bool.eq_false_iff.mpr c12
    subst c12
    rw [if_neg (show ¬ (false = true) by decide)] at H
    have H' := Aside0.mk H
    clear H
    go_wp2
    go_meet
    case rel => exact ⟨_, (a1_0), H', ⟨by first | omega | exact Nat.le_refl _⟩, ⟨by refine zm ?_; exact BK207.out⟩, ⟨by refine zm ?_; exact BK208.out⟩, ⟨zh⟩⟩
  case rest =>
   clear HC6
   try clear c1
   try clear p2
   try clear q2
   try clear hx2
   try clear qi2
   try clear c3
   try clear c3b0
   try clear c3b1
   try clear c5
   try clear c6
   try clear p6
   try clear c12
   try clear c13
   try clear hcz14_0
   try clear hcz14_1
   try clear hfz14_0
   try clear hfz14_1
   try clear hx209_0
   try clear hx209_1
   try clear p209
   try clear q209
   obtain ⟨kq, x208000_5, HA, HJ5, BK207, BK208, HB⟩ := hcut
   cases kq with
   | zero => exact absurd HA.out (by simp [agonicref05_deviation.j0])
   | succ kj5 =>
    have H := HA.out
    clear HA
    simp only [agonicref05_deviation.j0] at H
    have H' := Aside0.mk H
    clear H
    go_wp2
    go_loopg [5] kj5 (fun kq v5 w' => ∃ (x5_2 : Int) (x209000_2 : Int) (x209001_2 : Int), v5 = .int .i64 x5_2 ∧ Aside0 (agonicref05_deviation.l0 kq l0 x5_2 x208000_5 a1_1 = some (r1, r2)) ∧ Aside0 (kq ≤ kj5) ∧ Aside0 (w'.heap[gb207]? = some (.cells #[.int .i64 x208000_5, .int .i64 a1_1] 29 (0, 0))) ∧ Aside0 (w'.heap[gb208]? = some (.cells #[.int .i64 x209000_2, .int .i64 x209001_2] 29 (0, 0))) ∧ Aside0 (Below w.heap.size w w'))
    case atStart => exact ⟨(0), (0), (0), (by first | rfl | (simp; done) | (simp [*]; done)), H', ⟨Nat.le_refl _⟩, ⟨by refine zm ?_; exact BK207.out⟩, ⟨by refine zm ?_; exact BK208.out⟩, ⟨zh⟩⟩
    case round =>
     clear H'
     try clear c1
     try clear p2
     try clear q2
     try clear hx2
     try clear qi2
     try clear c3
     try clear c3b0
     try clear c3b1
     try clear c5
     try clear c6
     try clear p6
     try clear c12
     try clear c13
     try clear hcz14_0
     try clear hcz14_1
     try clear hfz14_0
     try clear hfz14_1
     try clear hx209_0
     try clear hx209_1
     try clear p2
     try clear p209
     try clear p6
     try clear q2
     try clear q209
     obtain ⟨x5_2, x209000_2, x209001_2, rfl, HA, HK2, BK207, BK208, HB⟩ := hrel
     cases gk with
     | zero => exact absurd HA.out (by simp [agonicref05_deviation.l0])
     | succ k2 =>
      have H := HA.out
      clear HA
      simp only [agonicref05_deviation.l0] at H
      by_cases c15 : x5_2 < (l0.length : Int)
      ·rw [if_pos c15] at H
       have c15b0 : decide (x5_2 < (l0.length : Int)) = true := decide_eq_true c15
       clear c15
       replace H := zi H
       obtain ⟨⟨t215, t216, t217, t218⟩, A160, H⟩ := H
       try dsimp only at H
       have A16 := Aside0.mk A160
       clear A160
       have HC17 := Aside0.mk H
       clear H
       go_upto_region 7 with (first | ((with_reducible refine gC 65 rfl ?_); refine gL 32 Try.func65 #[.slice (some ad209) l0.length c0, .int .i64 x5_2] ?_; (with_reducible refine (agonicref05_segment.calls _ _ l0 x5_2 t215 t216 t217 t218 _ ?side1 ?side2 A16.out).mono ?_); (case side1 => exact zc (Kd.C_below HR0.out HB.out)); (case side2 => exact HC0.out); rintro e w18 ⟨rfl, hb⟩; refine ⟨_, rfl, ?_⟩; replace BK207 := zk BK207 hb; replace BK208 := zk BK208 hb; replace HB := zd hb; (try clear hb)) | ((with_reducible refine gD 6 rfl ?_); refine zx 6 #[.int .i64 0, .int .i64 0] 54 ?_; intro gb219 hg w19 hbox hb; have BK219 := Aside0.mk (hbox); have GE219 := zG w hg; replace HB := zd hb; have NB207_219 := zN BK207 hg; have NB219_207 := zM BK207 hg; replace BK207 := zk BK207 hb; have NB208_219 := zN BK208 hg; have NB219_208 := zM BK208 hg; replace BK208 := zk BK208 hb; clear hb hbox hg) | ((with_reducible refine gD 7 rfl ?_); refine zx 7 #[.int .i64 0, .int .i64 0] 54 ?_; intro gb220 hg w20 hbox hb; have BK220 := Aside0.mk (hbox); have GE220 := zG w hg; replace HB := zd hb; have NB207_220 := zN BK207 hg; have NB220_207 := zM BK207 hg; replace BK207 := zk BK207 hb; have NB208_220 := zN BK208 hg; have NB220_208 := zM BK208 hg; replace BK208 := zk BK208 hb; have NB219_220 := zN BK219 hg; have NB220_219 := zM BK219 hg; replace BK219 := zk BK219 hb; clear hb hbox hg; have hnb21 := NB219_207.out; have hnc21 := NB207_219.out; have hnb22 := NB219_208.out; have hnc22 := NB208_219.out; have hnb23 := NB219_220.out; have hnc23 := NB220_219.out; have hcz24_0 : w20.cell? ⟨gb219, 0, none⟩ = some (.int .i64 0) := zy BK219 0; have hcz24_1 : w20.cell? ⟨gb219, 1, none⟩ = some (.int .i64 0) := zy BK219 1; have hfz24_0 := blk_frozen BK219.out 0; have hfz24_1 := blk_frozen BK219.out 1; have hnb25 := NB220_207.out; have hnc25 := NB207_220.out; have hnb26 := NB220_208.out; have hnc26 := NB208_220.out; have hcz27_0 : w20.cell? ⟨gb220, 0, none⟩ = some (.int .i64 0) := zy BK220 0; have hcz27_1 : w20.cell? ⟨gb220, 1, none⟩ = some (.int .i64 0) := zy BK220 1; have hfz27_0 := blk_frozen BK220.out 0; have hfz27_1 := blk_frozen BK220.out 1))
       (try simp only [Act.put, List.setIfInBounds_toArray, List.set_cons_zero, List.set_cons_succ])
       go_cut [47] (fun v47 wc => ∃ (kq : Nat) (x47_16 : Bool), v47 = .bool x47_16 ∧ Aside0 (agonicref05_deviation.j2 kq l0 x5_2 x47_16 x208000_5 a1_1 t215 t216 t217 t218 = some (r1, r2)) ∧ Aside0 (kq ≤ k2) ∧ Aside0 (wc.heap[gb207]? = some (.cells #[.int .i64 x208000_5, .int .i64 a1_1] 29 (0, 0))) ∧ Aside0 (wc.heap[gb208]? = some (.cells #[.int .i64 x209000_2, .int .i64 x209001_2] 29 (0, 0))) ∧ Aside0 (wc.heap[gb219]? = some (.cells #[.int .i64 t215, .int .i64 t216] 54 (0, 0))) ∧ Aside0 (wc.heap[gb220]? = some (.cells #[.int .i64 t217, .int .i64 t218] 54 (0, 0))) ∧ Aside0 (Below w.heap.size w wc))
       case first =>
        have H := HC17.out
        clear HC17
        replace H := zi H
        obtain ⟨⟨t221, t222⟩, A280, H⟩ := H
        try dsimp only at H
        have A28 := Aside0.mk A280
        clear A280
        replace H := zi H
        obtain ⟨t223, A290, H⟩ := H
        try dsimp only at H
        have A29 := Aside0.mk A290
        clear A290
        by_cases c30 : t223 = true
        ·subst c30
         rw [if_pos rfl] at H
         have H' := Aside0.mk H
         clear H
         try go_wp2
         have n0_ : Aside0 (((((w20.setCell ⟨gb219, 0, none⟩ (.int .i64 t215)).setCell ⟨gb219, 1, none⟩ (.int .i64 t216)).setCell ⟨gb220, 0, none⟩ (.int .i64 t217)).setCell ⟨gb220, 1, none⟩ (.int .i64 t218)).heap[gb207]? = some (.cells #[.int .i64 x208000_5, .int .i64 a1_1] 29 (0, 0))) := ⟨by refine zm ?_; refine blk_far ?_ NB207_220.out _; refine zm ?_; refine blk_far ?_ NB207_220.out _; refine zm ?_; refine blk_far ?_ NB207_219.out _; refine zm ?_; refine blk_far ?_ NB207_219.out _; refine zm ?_; exact BK207.out⟩
         have n1_ : Aside0 (((((w20.setCell ⟨gb219, 0, none⟩ (.int .i64 t215)).setCell ⟨gb219, 1, none⟩ (.int .i64 t216)).setCell ⟨gb220, 0, none⟩ (.int .i64 t217)).setCell ⟨gb220, 1, none⟩ (.int .i64 t218)).heap[gb208]? = some (.cells #[.int .i64 x209000_2, .int .i64 x209001_2] 29 (0, 0))) := ⟨by refine zm ?_; refine blk_far ?_ NB208_220.out _; refine zm ?_; refine blk_far ?_ NB208_220.out _; refine zm ?_; refine blk_far ?_ NB208_219.out _; refine zm ?_; refine blk_far ?_ NB208_219.out _; refine zm ?_; exact BK208.out⟩
         have n2_ : Aside0 (((((w20.setCell ⟨gb219, 0, none⟩ (.int .i64 t215)).setCell ⟨gb219, 1, none⟩ (.int .i64 t216)).setCell ⟨gb220, 0, none⟩ (.int .i64 t217)).setCell ⟨gb220, 1, none⟩ (.int .i64 t218)).heap[gb219]? = some (.cells #[.int .i64 t215, .int .i64 t216] 54 (0, 0))) := ⟨by refine zm ?_; refine blk_far ?_ NB219_220.out _; refine zm ?_; refine blk_far ?_ NB219_220.out _; refine zm ?_; refine blk_put (cs := #[.int .i64 t215, .int .i64 0]) ?_ 1 _ rfl; refine zm ?_; refine blk_put (cs := #[.int .i64 0, .int .i64 0]) ?_ 0 _ rfl; refine zm ?_; exact BK219.out⟩
         have n3_ : Aside0 (((((w20.setCell ⟨gb219, 0, none⟩ (.int .i64 t215)).setCell ⟨gb219, 1, none⟩ (.int .i64 t216)).setCell ⟨gb220, 0, none⟩ (.int .i64 t217)).setCell ⟨gb220, 1, none⟩ (.int .i64 t218)).heap[gb220]? = some (.cells #[.int .i64 t217, .int .i64 t218] 54 (0, 0))) := ⟨by refine zm ?_; refine blk_put (cs := #[.int .i64 t217, .int .i64 0]) ?_ 1 _ rfl; refine zm ?_; refine blk_put (cs := #[.int .i64 0, .int .i64 0]) ?_ 0 _ rfl; refine zm ?_; refine blk_far ?_ NB220_219.out _; refine zm ?_; refine blk_far ?_ NB220_219.out _; refine zm ?_; exact BK220.out⟩
         have n4_ : Aside0 (Below w.heap.size w ((((w20.setCell ⟨gb219, 0, none⟩ (.int .i64 t215)).setCell ⟨gb219, 1, none⟩ (.int .i64 t216)).setCell ⟨gb220, 0, none⟩ (.int .i64 t217)).setCell ⟨gb220, 1, none⟩ (.int .i64 t218))) := ⟨zh⟩
         (try clear BK207)
         (try clear BK208)
         (try clear BK219)
         (try clear BK220)
         (try clear HB)
         generalize ((((w20.setCell ⟨gb219, 0, none⟩ (.int .i64 t215)).setCell ⟨gb219, 1, none⟩ (.int .i64 t216)).setCell ⟨gb220, 0, none⟩ (.int .i64 t217)).setCell ⟨gb220, 1, none⟩ (.int .i64 t218)) = w31 at n0_ n1_ n2_ n3_ n4_ ⊢
         have BK207 := n0_
         have BK208 := n1_
         have BK219 := n2_
         have BK220 := n3_
         have HB := n4_
         clear n0_ n1_ n2_ n3_ n4_
         replace BK207 := Aside0.mk (blk_drew BK207.out)
         replace BK208 := Aside0.mk (blk_drew BK208.out)
         replace BK219 := Aside0.mk (blk_drew BK219.out)
         replace BK220 := Aside0.mk (blk_drew BK220.out)
         replace HB := Aside0.mk (below_drew1 HB.out)
         refine start_ (n := 13) (S := fun w' => w'.cell? ⟨gb207, 0, none⟩ = some (.int .i64 x208000_5) ∧ w'.cell? ⟨gb207, 1, none⟩ = some (.int .i64 a1_1) ∧ w'.cell? ⟨gb219, 0, none⟩ = some (.int .i64 t215) ∧ w'.cell? ⟨gb219, 1, none⟩ = some (.int .i64 t216)) (ds := []) #[false, false, false, false, false, false, false, false, false, false, false, false, false] (by kernel_rfl) rfl rfl ⟨zy BK207 0, zy BK207 1, zy BK219 0, zy BK219 1⟩ (fun hHeld => ?_); refine with_tabW agonicref05_deviation.tab7 agonicref05_deviation.bits7 (fun HT_ HW_ => ?_)
         generalize w31.drew = w32 at BK207 BK208 BK219 BK220 HB hHeld ⊢
         refine pq HT_ 1 36 13 2 ?_
         refine take_ (i := 0) (N := some 35) (v := ?_) (a' := ?_) #[true, true, false, false, false, false, false, false, false, false, false, false, false] rfl rfl (take_ofW HT_.out HW_.out (by kernel_rfl)) (fun _ _ _ h => h) (Or.inl ⟨by rfl, ?_⟩) hHeld ?_ ?_
         rotate_left
         ·rintro w' ⟨s0, s1, s2, s3⟩
          go_simp
          with_reducible rfl
         rotate_left
         ·simp only [Act.put, List.setIfInBounds_toArray, List.set_cons_zero, List.set_cons_succ, i64_w, i32_w]
          rfl
         refine take_ (i := 2) (N := some 37) (v := ?_) (a' := ?_) #[true, true, true, false, false, false, false, false, false, false, false, false, false] rfl rfl (take_ofW HT_.out HW_.out (by kernel_rfl)) (fun _ _ _ h => h) (Or.inl ⟨by rfl, ?_⟩) hHeld ?_ ?_
         rotate_left
         ·rintro w' ⟨s0, s1, s2, s3⟩
          go_simp
          with_reducible rfl
         rotate_left
         ·simp only [Act.put, List.setIfInBounds_toArray, List.set_cons_zero, List.set_cons_succ, i64_w, i32_w]
          rfl
         refine one_ (i := 3) (N := some 38) #[true, true, true, true, false, false, false, false, false, false, false, false, false] rfl rfl (one_of HT_.out (by kernel_rfl)) (by decide) (fun K hK => ?_)
         refine goes_ Try.func58 (by kernel_rfl) rfl #[.int .i64 t215] (by rfl) rfl rfl zs ?_
         with_reducible refine (agonicref05_whole.calls t215 t221 t222 _ A28.out).mono ?_
         rintro e w33 ⟨rfl, hb⟩
         refine ⟨_, rfl, ?_⟩
         replace BK207 := zk BK207 hb
         replace BK208 := zk BK208 hb
         replace BK219 := zk BK219 hb
         replace BK220 := zk BK220 hb
         replace HB := zd hb
         (try clear hb)
         (try clear hb2)
         (try clear hk)
         (try clear hi)
         refine hK.out _ _ ⟨zy BK207 0, zy BK207 1, zy BK219 0, zy BK219 1⟩ (fun hHeld => ?_)
         clear hK K
         refine norm_ (a' := ?_) ?_ ?_
         rotate_left
         ·show Act.put _ (some 38) _ = _
          simp only [Act.put, List.setIfInBounds_toArray, List.set_cons_zero, List.set_cons_succ, i64_w, i32_w]
          rfl
         refine one_ (i := 4) (N := some 39) #[true, true, true, true, true, false, false, false, false, false, false, false, false] rfl rfl (one_of HT_.out (by kernel_rfl)) (by decide) (fun K hK => ?_)
         refine goes_ Try.func67 (by kernel_rfl) rfl #[.agg #[.int .i64 x208000_5, .int .i64 a1_1], .agg #[.int .i64 t221, .int .i64 t222]] (by rfl) rfl rfl zs ?_
         with_reducible refine (agonicref01_Less.calls x208000_5 a1_1 t221 t222 true _ A29.out).mono ?_
         rintro e w34 ⟨rfl, hb⟩
         refine ⟨_, rfl, ?_⟩
         replace BK207 := zk BK207 hb
         replace BK208 := zk BK208 hb
         replace BK219 := zk BK219 hb
         replace BK220 := zk BK220 hb
         replace HB := zd hb
         (try clear hb)
         (try clear hb2)
         (try clear hk)
         (try clear hi)
         refine hK.out _ _ ⟨zy BK207 0, zy BK207 1, zy BK219 0, zy BK219 1⟩ (fun hHeld => ?_)
         clear hK K
         refine norm_ (a' := ?_) ?_ ?_
         rotate_left
         ·show Act.put _ (some 39) _ = _
          simp only [Act.put, List.setIfInBounds_toArray, List.set_cons_zero, List.set_cons_succ, i64_w, i32_w]
          rfl
         refine pq HT_ 5 40 13 63 ?_
         refine pu (i := 6) (N := some 41) (zA 13 127) rfl rfl (any_of HT_.out (by kernel_rfl)) ?_
         refine pu (i := 7) (N := some 42) (zA 13 255) rfl rfl (any_of HT_.out (by kernel_rfl)) ?_
         refine pu (i := 8) (N := some 43) (zA 13 511) rfl rfl (any_of HT_.out (by kernel_rfl)) ?_
         refine pu (i := 9) (N := some 44) (zA 13 1023) rfl rfl (any_of HT_.out (by kernel_rfl)) ?_
         refine pu (i := 10) (N := some 45) (zA 13 2047) rfl rfl (any_of HT_.out (by kernel_rfl)) ?_
         refine pu (i := 11) (N := some 46) (zA 13 4095) rfl rfl (any_of HT_.out (by kernel_rfl)) ?_
         refine pq HT_ 12 47 13 8191 ?_
         refine done_ (done_of HT_.out (by kernel_rfl)) ?_
         try go_wp2
         go_meet
         case rel => exact ⟨_, (true), (by first | rfl | (simp; done) | (simp [*]; done)), H', ⟨by have := HJ5.out; have := HK2.out; first | omega | exact Nat.le_refl _⟩, ⟨by refine zm ?_; exact BK207.out⟩, ⟨by refine zm ?_; exact BK208.out⟩, ⟨by refine zm ?_; exact BK219.out⟩, ⟨by refine zm ?_; exact BK220.out⟩, ⟨zh⟩⟩
        ·replace c30 := Bool.eq_false_iff.mpr c30
         subst c30
         rw [if_neg (show ¬ (false = true) by decide)] at H
         replace H := zi H
         obtain ⟨⟨t224, t225⟩, A350, H⟩ := H
         try dsimp only at H
         have A35 := Aside0.mk A350
         clear A350
         replace H := zi H
         obtain ⟨t226, A360, H⟩ := H
         try dsimp only at H
         have A36 := Aside0.mk A360
         clear A360
         have H' := Aside0.mk H
         clear H
         try go_wp2
         have n0_ : Aside0 (((((w20.setCell ⟨gb219, 0, none⟩ (.int .i64 t215)).setCell ⟨gb219, 1, none⟩ (.int .i64 t216)).setCell ⟨gb220, 0, none⟩ (.int .i64 t217)).setCell ⟨gb220, 1, none⟩ (.int .i64 t218)).heap[gb207]? = some (.cells #[.int .i64 x208000_5, .int .i64 a1_1] 29 (0, 0))) := ⟨by refine zm ?_; refine blk_far ?_ NB207_220.out _; refine zm ?_; refine blk_far ?_ NB207_220.out _; refine zm ?_; refine blk_far ?_ NB207_219.out _; refine zm ?_; refine blk_far ?_ NB207_219.out _; refine zm ?_; exact BK207.out⟩
         have n1_ : Aside0 (((((w20.setCell ⟨gb219, 0, none⟩ (.int .i64 t215)).setCell ⟨gb219, 1, none⟩ (.int .i64 t216)).setCell ⟨gb220, 0, none⟩ (.int .i64 t217)).setCell ⟨gb220, 1, none⟩ (.int .i64 t218)).heap[gb208]? = some (.cells #[.int .i64 x209000_2, .int .i64 x209001_2] 29 (0, 0))) := ⟨by refine zm ?_; refine blk_far ?_ NB208_220.out _; refine zm ?_; refine blk_far ?_ NB208_220.out _; refine zm ?_; refine blk_far ?_ NB208_219.out _; refine zm ?_; refine blk_far ?_ NB208_219.out _; refine zm ?_; exact BK208.out⟩
         have n2_ : Aside0 (((((w20.setCell ⟨gb219, 0, none⟩ (.int .i64 t215)).setCell ⟨gb219, 1, none⟩ (.int .i64 t216)).setCell ⟨gb220, 0, none⟩ (.int .i64 t217)).setCell ⟨gb220, 1, none⟩ (.int .i64 t218)).heap[gb219]? = some (.cells #[.int .i64 t215, .int .i64 t216] 54 (0, 0))) := ⟨by refine zm ?_; refine blk_far ?_ NB219_220.out _; refine zm ?_; refine blk_far ?_ NB219_220.out _; refine zm ?_; refine blk_put (cs := #[.int .i64 t215, .int .i64 0]) ?_ 1 _ rfl; refine zm ?_; refine blk_put (cs := #[.int .i64 0, .int .i64 0]) ?_ 0 _ rfl; refine zm ?_; exact BK219.out⟩
         have n3_ : Aside0 (((((w20.setCell ⟨gb219, 0, none⟩ (.int .i64 t215)).setCell ⟨gb219, 1, none⟩ (.int .i64 t216)).setCell ⟨gb220, 0, none⟩ (.int .i64 t217)).setCell ⟨gb220, 1, none⟩ (.int .i64 t218)).heap[gb220]? = some (.cells #[.int .i64 t217, .int .i64 t218] 54 (0, 0))) := ⟨by refine zm ?_; refine blk_put (cs := #[.int .i64 t217, .int .i64 0]) ?_ 1 _ rfl; refine zm ?_; refine blk_put (cs := #[.int .i64 0, .int .i64 0]) ?_ 0 _ rfl; refine zm ?_; refine blk_far ?_ NB220_219.out _; refine zm ?_; refine blk_far ?_ NB220_219.out _; refine zm ?_; exact BK220.out⟩
         have n4_ : Aside0 (Below w.heap.size w ((((w20.setCell ⟨gb219, 0, none⟩ (.int .i64 t215)).setCell ⟨gb219, 1, none⟩ (.int .i64 t216)).setCell ⟨gb220, 0, none⟩ (.int .i64 t217)).setCell ⟨gb220, 1, none⟩ (.int .i64 t218))) := ⟨zh⟩
         (try clear BK207)
         (try clear BK208)
         (try clear BK219)
         (try clear BK220)
         (try clear HB)
         generalize ((((w20.setCell ⟨gb219, 0, none⟩ (.int .i64 t215)).setCell ⟨gb219, 1, none⟩ (.int .i64 t216)).setCell ⟨gb220, 0, none⟩ (.int .i64 t217)).setCell ⟨gb220, 1, none⟩ (.int .i64 t218)) = w37 at n0_ n1_ n2_ n3_ n4_ ⊢
         have BK207 := n0_
         have BK208 := n1_
         have BK219 := n2_
         have BK220 := n3_
         have HB := n4_
         clear n0_ n1_ n2_ n3_ n4_
         replace BK207 := Aside0.mk (blk_drew BK207.out)
         replace BK208 := Aside0.mk (blk_drew BK208.out)
         replace BK219 := Aside0.mk (blk_drew BK219.out)
         replace BK220 := Aside0.mk (blk_drew BK220.out)
         replace HB := Aside0.mk (below_drew1 HB.out)
         refine start_ (n := 13) (S := fun w' => w'.cell? ⟨gb207, 0, none⟩ = some (.int .i64 x208000_5) ∧ w'.cell? ⟨gb207, 1, none⟩ = some (.int .i64 a1_1) ∧ w'.cell? ⟨gb219, 0, none⟩ = some (.int .i64 t215) ∧ w'.cell? ⟨gb219, 1, none⟩ = some (.int .i64 t216) ∧ w'.cell? ⟨gb220, 0, none⟩ = some (.int .i64 t217) ∧ w'.cell? ⟨gb220, 1, none⟩ = some (.int .i64 t218)) (ds := []) #[false, false, false, false, false, false, false, false, false, false, false, false, false] (by kernel_rfl) rfl rfl ⟨zy BK207 0, zy BK207 1, zy BK219 0, zy BK219 1, zy BK220 0, zy BK220 1⟩ (fun hHeld => ?_); refine with_tabW agonicref05_deviation.tab7 agonicref05_deviation.bits7 (fun HT_ HW_ => ?_)
         generalize w37.drew = w38 at BK207 BK208 BK219 BK220 HB hHeld ⊢
         refine pq HT_ 1 36 13 2 ?_
         refine take_ (i := 0) (N := some 35) (v := ?_) (a' := ?_) #[true, true, false, false, false, false, false, false, false, false, false, false, false] rfl rfl (take_ofW HT_.out HW_.out (by kernel_rfl)) (fun _ _ _ h => h) (Or.inl ⟨by rfl, ?_⟩) hHeld ?_ ?_
         rotate_left
         ·rintro w' ⟨s0, s1, s2, s3, s4, s5⟩
          go_simp
          with_reducible rfl
         rotate_left
         ·simp only [Act.put, List.setIfInBounds_toArray, List.set_cons_zero, List.set_cons_succ, i64_w, i32_w]
          rfl
         refine take_ (i := 2) (N := some 37) (v := ?_) (a' := ?_) #[true, true, true, false, false, false, false, false, false, false, false, false, false] rfl rfl (take_ofW HT_.out HW_.out (by kernel_rfl)) (fun _ _ _ h => h) (Or.inl ⟨by rfl, ?_⟩) hHeld ?_ ?_
         rotate_left
         ·rintro w' ⟨s0, s1, s2, s3, s4, s5⟩
          go_simp
          with_reducible rfl
         rotate_left
         ·simp only [Act.put, List.setIfInBounds_toArray, List.set_cons_zero, List.set_cons_succ, i64_w, i32_w]
          rfl
         refine one_ (i := 3) (N := some 38) #[true, true, true, true, false, false, false, false, false, false, false, false, false] rfl rfl (one_of HT_.out (by kernel_rfl)) (by decide) (fun K hK => ?_)
         refine goes_ Try.func58 (by kernel_rfl) rfl #[.int .i64 t215] (by rfl) rfl rfl zs ?_
         with_reducible refine (agonicref05_whole.calls t215 t221 t222 _ A28.out).mono ?_
         rintro e w39 ⟨rfl, hb⟩
         refine ⟨_, rfl, ?_⟩
         replace BK207 := zk BK207 hb
         replace BK208 := zk BK208 hb
         replace BK219 := zk BK219 hb
         replace BK220 := zk BK220 hb
         replace HB := zd hb
         (try clear hb)
         (try clear hb2)
         (try clear hk)
         (try clear hi)
         refine hK.out _ _ ⟨zy BK207 0, zy BK207 1, zy BK219 0, zy BK219 1, zy BK220 0, zy BK220 1⟩ (fun hHeld => ?_)
         clear hK K
         refine norm_ (a' := ?_) ?_ ?_
         rotate_left
         ·show Act.put _ (some 38) _ = _
          simp only [Act.put, List.setIfInBounds_toArray, List.set_cons_zero, List.set_cons_succ, i64_w, i32_w]
          rfl
         refine one_ (i := 4) (N := some 39) #[true, true, true, true, true, false, false, false, false, false, false, false, false] rfl rfl (one_of HT_.out (by kernel_rfl)) (by decide) (fun K hK => ?_)
         refine goes_ Try.func67 (by kernel_rfl) rfl #[.agg #[.int .i64 x208000_5, .int .i64 a1_1], .agg #[.int .i64 t221, .int .i64 t222]] (by rfl) rfl rfl zs ?_
         with_reducible refine (agonicref01_Less.calls x208000_5 a1_1 t221 t222 false _ A29.out).mono ?_
         rintro e w40 ⟨rfl, hb⟩
         refine ⟨_, rfl, ?_⟩
         replace BK207 := zk BK207 hb
         replace BK208 := zk BK208 hb
         replace BK219 := zk BK219 hb
         replace BK220 := zk BK220 hb
         replace HB := zd hb
         (try clear hb)
         (try clear hb2)
         (try clear hk)
         (try clear hi)
         refine hK.out _ _ ⟨zy BK207 0, zy BK207 1, zy BK219 0, zy BK219 1, zy BK220 0, zy BK220 1⟩ (fun hHeld => ?_)
         clear hK K
         refine norm_ (a' := ?_) ?_ ?_
         rotate_left
         ·show Act.put _ (some 39) _ = _
          simp only [Act.put, List.setIfInBounds_toArray, List.set_cons_zero, List.set_cons_succ, i64_w, i32_w]
          rfl
         refine pq HT_ 5 40 13 63 ?_
         refine pq HT_ 7 42 13 191 ?_
         refine take_ (i := 6) (N := some 41) (v := ?_) (a' := ?_) #[true, true, true, true, true, true, true, true, false, false, false, false, false] rfl rfl (take_ofW HT_.out HW_.out (by kernel_rfl)) (fun _ _ _ h => h) (Or.inl ⟨by rfl, ?_⟩) hHeld ?_ ?_
         rotate_left
         ·rintro w' ⟨s0, s1, s2, s3, s4, s5⟩
          go_simp
          with_reducible rfl
         rotate_left
         ·simp only [Act.put, List.setIfInBounds_toArray, List.set_cons_zero, List.set_cons_succ, i64_w, i32_w]
          rfl
         refine take_ (i := 8) (N := some 43) (v := ?_) (a' := ?_) #[true, true, true, true, true, true, true, true, true, false, false, false, false] rfl rfl (take_ofW HT_.out HW_.out (by kernel_rfl)) (fun _ _ _ h => h) (Or.inl ⟨by rfl, ?_⟩) hHeld ?_ ?_
         rotate_left
         ·rintro w' ⟨s0, s1, s2, s3, s4, s5⟩
          go_simp
          with_reducible rfl
         rotate_left
         ·simp only [Act.put, List.setIfInBounds_toArray, List.set_cons_zero, List.set_cons_succ, i64_w, i32_w]
          rfl
         refine one_ (i := 9) (N := some 44) #[true, true, true, true, true, true, true, true, true, true, false, false, false] rfl rfl (one_of HT_.out (by kernel_rfl)) (by decide) (fun K hK => ?_)
         refine goes_ Try.func58 (by kernel_rfl) rfl #[.int .i64 t217] (by rfl) rfl rfl zs ?_
         with_reducible refine (agonicref05_whole.calls t217 t224 t225 _ A35.out).mono ?_
         rintro e w41 ⟨rfl, hb⟩
         refine ⟨_, rfl, ?_⟩
         replace BK207 := zk BK207 hb
         replace BK208 := zk BK208 hb
         replace BK219 := zk BK219 hb
         replace BK220 := zk BK220 hb
         replace HB := zd hb
         (try clear hb)
         (try clear hb2)
         (try clear hk)
         (try clear hi)
         refine hK.out _ _ ⟨zy BK207 0, zy BK207 1, zy BK219 0, zy BK219 1, zy BK220 0, zy BK220 1⟩ (fun hHeld => ?_)
         clear hK K
         refine norm_ (a' := ?_) ?_ ?_
         rotate_left
         ·show Act.put _ (some 44) _ = _
          simp only [Act.put, List.setIfInBounds_toArray, List.set_cons_zero, List.set_cons_succ, i64_w, i32_w]
          rfl
         refine one_ (i := 10) (N := some 45) #[true, true, true, true, true, true, true, true, true, true, true, false, false] rfl rfl (one_of HT_.out (by kernel_rfl)) (by decide) (fun K hK => ?_)
         refine goes_ Try.func67 (by kernel_rfl) rfl #[.agg #[.int .i64 x208000_5, .int .i64 a1_1], .agg #[.int .i64 t224, .int .i64 t225]] (by rfl) rfl rfl zs ?_
         with_reducible refine (agonicref01_Less.calls x208000_5 a1_1 t224 t225 t226 _ A36.out).mono ?_
         rintro e w42 ⟨rfl, hb⟩
         refine ⟨_, rfl, ?_⟩
         replace BK207 := zk BK207 hb
         replace BK208 := zk BK208 hb
         replace BK219 := zk BK219 hb
         replace BK220 := zk BK220 hb
         replace HB := zd hb
         (try clear hb)
         (try clear hb2)
         (try clear hk)
         (try clear hi)
         refine hK.out _ _ ⟨zy BK207 0, zy BK207 1, zy BK219 0, zy BK219 1, zy BK220 0, zy BK220 1⟩ (fun hHeld => ?_)
         clear hK K
         refine norm_ (a' := ?_) ?_ ?_
         rotate_left
         ·show Act.put _ (some 45) _ = _
          simp only [Act.put, List.setIfInBounds_toArray, List.set_cons_zero, List.set_cons_succ, i64_w, i32_w]
          rfl
         refine pq HT_ 11 46 13 4095 ?_
         refine pq HT_ 12 47 13 8191 ?_
         refine done_ (done_of HT_.out (by kernel_rfl)) ?_
         try go_wp2
         go_meet
         case rel => exact ⟨_, (!t226), (by first | rfl | (simp; done) | (simp [*]; done)), H', ⟨by have := HJ5.out; have := HK2.out; first | omega | exact Nat.le_refl _⟩, ⟨by refine zm ?_; exact BK207.out⟩, ⟨by refine zm ?_; exact BK208.out⟩, ⟨by refine zm ?_; exact BK219.out⟩, ⟨by refine zm ?_; exact BK220.out⟩, ⟨zh⟩⟩
       case rest =>
        clear HC17
        try clear c1
        try clear c2
        try clear p2
        try clear q2
        try clear hx2
        try clear qi2
        try clear c3
        try clear c3b0
        try clear c3b1
        try clear c5
        try clear c6
        try clear p6
        try clear c12
        try clear c13
        try clear c15
        try clear c15b0
        try clear p20
        try clear q20
        try clear hx20
        try clear c21
        try clear c22
        try clear c23
        try clear c25
        try clear c26
        try clear c30
        try clear hcz14_0
        try clear hcz14_1
        try clear hcz24_0
        try clear hcz24_1
        try clear hcz27_0
        try clear hcz27_1
        try clear hfz14_0
        try clear hfz14_1
        try clear hfz24_0
        try clear hfz24_1
        try clear hfz27_0
        try clear hfz27_1
        try clear hx209_0
        try clear hx209_1
        try clear p2
        try clear p209
        try clear p6
        try clear q2
        try clear q209
        obtain ⟨kq, x47_16, rfl, HA, HJ16, BK207, BK208, BK219, BK220, HB⟩ := hcut
        cases kq with
        | zero => exact absurd HA.out (by simp [agonicref05_deviation.j2])
        | succ kj16 =>
         have H := HA.out
         clear HA
         simp only [agonicref05_deviation.j2] at H
         by_cases c43 : x47_16 = true
         ·subst c43
          rw [if_pos rfl] at H
          have H' := Aside0.mk H
          clear H
          go_wp2
          go_roundg kj16
          case measure => have := HJ5.out; have := HK2.out; have := HJ16.out; omega
          case rel => exact ⟨(wrap64 (x5_2 + 1)), (x209000_2), (x209001_2), (by first | rfl | (simp; done) | (simp [*]; done)), H', ⟨by have := HJ5.out; have := HK2.out; have := HJ16.out; omega⟩, ⟨by refine zm ?_; exact BK207.out⟩, ⟨by refine zm ?_; exact BK208.out⟩, ⟨zh⟩⟩
         ·replace c43 := Bool.eq_false_iff.mpr c43
          subst c43
          rw [if_neg (show ¬ (false = true) by decide)] at H
          replace H := zi H
          obtain ⟨⟨t227, t228⟩, A440, H⟩ := H
          try dsimp only at H
          have A44 := Aside0.mk A440
          clear A440
          replace H := zi H
          obtain ⟨⟨t230, t231⟩, A450, H⟩ := H
          try dsimp only at H
          have A45 := Aside0.mk A450
          clear A450
          replace H := zi H
          obtain ⟨⟨t232, t233⟩, A460, H⟩ := H
          try dsimp only at H
          have A46 := Aside0.mk A460
          clear A460
          simp only [Option.some.injEq, Prod.mk.injEq] at H
          obtain ⟨rfl, rfl⟩ := H
          have hnb47 := NB220_207.out
          have hnc47 := NB207_220.out
          have hnb48 := NB220_208.out
          have hnc48 := NB208_220.out
          have hnb49 := NB220_219.out
          have hnc49 := NB219_220.out
          have hcz50_0 : wc.cell? ⟨gb220, 0, none⟩ = some (.int .i64 t217) := zy BK220 0
          have hcz50_1 : wc.cell? ⟨gb220, 1, none⟩ = some (.int .i64 t218) := zy BK220 1
          have hfz50_0 := blk_frozen BK220.out 0
          have hfz50_1 := blk_frozen BK220.out 1
          have hnb51 := NB219_207.out
          have hnc51 := NB207_219.out
          have hnb52 := NB219_208.out
          have hnc52 := NB208_219.out
          have hcz53_0 : wc.cell? ⟨gb219, 0, none⟩ = some (.int .i64 t215) := zy BK219 0
          have hcz53_1 : wc.cell? ⟨gb219, 1, none⟩ = some (.int .i64 t216) := zy BK219 1
          have hfz53_0 := blk_frozen BK219.out 0
          have hfz53_1 := blk_frozen BK219.out 1
          have hnb54 := NB207_208.out
          have hnc54 := NB208_207.out
          have hcz55_0 : wc.cell? ⟨gb207, 0, none⟩ = some (.int .i64 x208000_5) := zy BK207 0
          have hcz55_1 : wc.cell? ⟨gb207, 1, none⟩ = some (.int .i64 a1_1) := zy BK207 1
          have hfz55_0 := blk_frozen BK207.out 0
          have hfz55_1 := blk_frozen BK207.out 1
          try go_wp2_with (first | ((with_reducible refine gC 66 rfl ?_); refine gL 70 Try.func66 #[.int .i64 (wrap64 ((wrap64 (t218 - t216)) * (wrap64 (x208000_5 - (wrap64 (t215 * a1_1)))))), .int .i64 (wrap64 ((wrap64 (t217 - t215)) * a1_1))] ?_; (with_reducible refine (agonicref01_Reduced.calls kj16 (wrap64 ((wrap64 (t218 - t216)) * (wrap64 (x208000_5 - (wrap64 (t215 * a1_1)))))) (wrap64 ((wrap64 (t217 - t215)) * a1_1)) t227 t228 _ A44.out).mono ?_); rintro e w56 ⟨rfl, hb⟩; refine ⟨_, rfl, ?_⟩; replace BK207 := zk BK207 hb; replace BK208 := zk BK208 hb; replace BK219 := zk BK219 hb; replace BK220 := zk BK220 hb; replace HB := zd hb; (try clear hb)) | ((with_reducible refine gD 8 rfl ?_); refine zx 8 #[.int .i64 0, .int .i64 0] 29 ?_; intro gb229 hg w57 hbox hb; have BK229 := Aside0.mk (hbox); have GE229 := zG w hg; replace HB := zd hb; have NB207_229 := zN BK207 hg; have NB229_207 := zM BK207 hg; replace BK207 := zk BK207 hb; have NB208_229 := zN BK208 hg; have NB229_208 := zM BK208 hg; replace BK208 := zk BK208 hb; have NB219_229 := zN BK219 hg; have NB229_219 := zM BK219 hg; replace BK219 := zk BK219 hb; have NB220_229 := zN BK220 hg; have NB229_220 := zM BK220 hg; replace BK220 := zk BK220 hb; clear hb hbox hg; have hnb58 := NB229_207.out; have hnc58 := NB207_229.out; have hnb59 := NB229_208.out; have hnc59 := NB208_229.out; have hnb60 := NB229_219.out; have hnc60 := NB219_229.out; have hnb61 := NB229_220.out; have hnc61 := NB220_229.out; have hcz62_0 : w57.cell? ⟨gb229, 0, none⟩ = some (.int .i64 0) := zy BK229 0; have hcz62_1 : w57.cell? ⟨gb229, 1, none⟩ = some (.int .i64 0) := zy BK229 1; have hfz62_0 := blk_frozen BK229.out 0; have hfz62_1 := blk_frozen BK229.out 1))
          have n0_ : Aside0 (((w57.setCell ⟨gb229, 0, none⟩ (.int .i64 t227)).setCell ⟨gb229, 1, none⟩ (.int .i64 t228)).heap[gb207]? = some (.cells #[.int .i64 x208000_5, .int .i64 a1_1] 29 (0, 0))) := ⟨by refine zm ?_; refine blk_far ?_ NB207_229.out _; refine zm ?_; refine blk_far ?_ NB207_229.out _; refine zm ?_; exact BK207.out⟩
          have n1_ : Aside0 (((w57.setCell ⟨gb229, 0, none⟩ (.int .i64 t227)).setCell ⟨gb229, 1, none⟩ (.int .i64 t228)).heap[gb208]? = some (.cells #[.int .i64 x209000_2, .int .i64 x209001_2] 29 (0, 0))) := ⟨by refine zm ?_; refine blk_far ?_ NB208_229.out _; refine zm ?_; refine blk_far ?_ NB208_229.out _; refine zm ?_; exact BK208.out⟩
          have n2_ : Aside0 (((w57.setCell ⟨gb229, 0, none⟩ (.int .i64 t227)).setCell ⟨gb229, 1, none⟩ (.int .i64 t228)).heap[gb219]? = some (.cells #[.int .i64 t215, .int .i64 t216] 54 (0, 0))) := ⟨by refine zm ?_; refine blk_far ?_ NB219_229.out _; refine zm ?_; refine blk_far ?_ NB219_229.out _; refine zm ?_; exact BK219.out⟩
          have n3_ : Aside0 (((w57.setCell ⟨gb229, 0, none⟩ (.int .i64 t227)).setCell ⟨gb229, 1, none⟩ (.int .i64 t228)).heap[gb220]? = some (.cells #[.int .i64 t217, .int .i64 t218] 54 (0, 0))) := ⟨by refine zm ?_; refine blk_far ?_ NB220_229.out _; refine zm ?_; refine blk_far ?_ NB220_229.out _; refine zm ?_; exact BK220.out⟩
          have n4_ : Aside0 (((w57.setCell ⟨gb229, 0, none⟩ (.int .i64 t227)).setCell ⟨gb229, 1, none⟩ (.int .i64 t228)).heap[gb229]? = some (.cells #[.int .i64 t227, .int .i64 t228] 29 (0, 0))) := ⟨by refine zm ?_; refine blk_put (cs := #[.int .i64 t227, .int .i64 0]) ?_ 1 _ rfl; refine zm ?_; refine blk_put (cs := #[.int .i64 0, .int .i64 0]) ?_ 0 _ rfl; refine zm ?_; exact BK229.out⟩
          have n5_ : Aside0 (Below w.heap.size w ((w57.setCell ⟨gb229, 0, none⟩ (.int .i64 t227)).setCell ⟨gb229, 1, none⟩ (.int .i64 t228))) := ⟨zh⟩
          (try clear BK207)
          (try clear BK208)
          (try clear BK219)
          (try clear BK220)
          (try clear BK229)
          (try clear HB)
          generalize ((w57.setCell ⟨gb229, 0, none⟩ (.int .i64 t227)).setCell ⟨gb229, 1, none⟩ (.int .i64 t228)) = w63 at n0_ n1_ n2_ n3_ n4_ n5_ ⊢
          have BK207 := n0_
          have BK208 := n1_
          have BK219 := n2_
          have BK220 := n3_
          have BK229 := n4_
          have HB := n5_
          clear n0_ n1_ n2_ n3_ n4_ n5_
          replace BK207 := Aside0.mk (blk_drew BK207.out)
          replace BK208 := Aside0.mk (blk_drew BK208.out)
          replace BK219 := Aside0.mk (blk_drew BK219.out)
          replace BK220 := Aside0.mk (blk_drew BK220.out)
          replace BK229 := Aside0.mk (blk_drew BK229.out)
          replace HB := Aside0.mk (below_drew1 HB.out)
          refine start_ (n := 6) (S := fun w' => w'.cell? ⟨gb219, 0, none⟩ = some (.int .i64 t215) ∧ w'.cell? ⟨gb219, 1, none⟩ = some (.int .i64 t216) ∧ w'.cell? ⟨gb229, 0, none⟩ = some (.int .i64 t227) ∧ w'.cell? ⟨gb229, 1, none⟩ = some (.int .i64 t228)) (ds := []) #[false, false, false, false, false, false] (by kernel_rfl) rfl rfl ⟨zy BK219 0, zy BK219 1, zy BK229 0, zy BK229 1⟩ (fun hHeld => ?_)
          generalize w63.drew = w64 at BK207 BK208 BK219 BK220 BK229 HB hHeld ⊢
          refine pz (i := 0) (N := some 71) (zA 6 1) rfl rfl (by kernel_rfl) ?_
          refine take_ (i := 1) (N := some 72) (v := ?_) (a' := ?_) #[true, true, false, false, false, false] rfl rfl (by kernel_rfl) (fun _ _ _ h => h) (Or.inl ⟨by rfl, ?_⟩) hHeld ?_ ?_
          rotate_left
          ·rintro w' ⟨s0, s1, s2, s3⟩
           go_simp
           with_reducible rfl
          rotate_left
          ·simp only [Act.put, List.setIfInBounds_toArray, List.set_cons_zero, List.set_cons_succ, i64_w, i32_w]
           rfl
          refine take_ (i := 3) (N := some 74) (v := ?_) (a' := ?_) #[true, true, false, true, false, false] rfl rfl (by kernel_rfl) (fun _ _ _ h => h) (Or.inl ⟨by rfl, ?_⟩) hHeld ?_ ?_
          rotate_left
          ·rintro w' ⟨s0, s1, s2, s3⟩
           go_simp
           with_reducible rfl
          rotate_left
          ·simp only [Act.put, List.setIfInBounds_toArray, List.set_cons_zero, List.set_cons_succ, i64_w, i32_w]
           rfl
          refine one_ (i := 2) (N := some 73) #[true, true, true, true, false, false] rfl rfl (by kernel_rfl) (by decide) (fun K hK => ?_)
          refine goes_ Try.func58 (by kernel_rfl) rfl #[.int .i64 t216] (by rfl) rfl rfl zs ?_
          with_reducible refine (agonicref05_whole.calls t216 t230 t231 _ A45.out).mono ?_
          rintro e w65 ⟨rfl, hb⟩
          refine ⟨_, rfl, ?_⟩
          replace BK208 := zk BK208 hb
          replace BK219 := zk BK219 hb
          replace BK229 := zk BK229 hb
          replace HB := zd hb
          (try clear hb)
          (try clear hb2)
          (try clear hk)
          (try clear hi)
          refine hK.out _ _ ⟨zy BK219 0, zy BK219 1, zy BK229 0, zy BK229 1⟩ (fun hHeld => ?_)
          clear hK K
          refine norm_ (a' := ?_) ?_ ?_
          rotate_left
          ·show Act.put _ (some 73) _ = _
           simp only [Act.put, List.setIfInBounds_toArray, List.set_cons_zero, List.set_cons_succ, i64_w, i32_w]
           rfl
          refine one_ (i := 4) (N := some 75) #[true, true, true, true, true, false] rfl rfl (by kernel_rfl) (by decide) (fun K hK => ?_)
          refine goes_ Try.func69 (by kernel_rfl) rfl #[.agg #[.int .i64 t230, .int .i64 t231], .agg #[.int .i64 t227, .int .i64 t228]] (by rfl) rfl rfl zs ?_
          with_reducible refine (agonicref05_Plus.calls kj16 t230 t231 t227 t228 t232 t233 _ A46.out).mono ?_
          rintro e w66 ⟨rfl, hb⟩
          refine ⟨_, rfl, ?_⟩
          replace BK208 := zk BK208 hb
          replace BK219 := zk BK219 hb
          replace BK229 := zk BK229 hb
          replace HB := zd hb
          (try clear hb)
          (try clear hb2)
          (try clear hk)
          (try clear hi)
          refine hK.out _ _ ⟨zy BK219 0, zy BK219 1, zy BK229 0, zy BK229 1⟩ (fun hHeld => ?_)
          clear hK K
          refine norm_ (a' := ?_) ?_ ?_
          rotate_left
          ·show Act.put _ (some 75) _ = _
           simp only [Act.put, List.setIfInBounds_toArray, List.set_cons_zero, List.set_cons_succ, i64_w, i32_w]
           rfl
          refine one_ (i := 5) (N := none) #[true, true, true, true, true, true] rfl rfl (by kernel_rfl) (by decide) (fun K hK => ?_)
          have hs67 : w66.cell? ⟨gb208, 0, none⟩ = some (.int .i64 x209000_2) := zy BK208 0
          have hfs67 := blk_frozen BK208.out 0
          have hns67_0 := NB207_208.out
          have hns67_2 := NB219_208.out
          have hns67_3 := NB220_208.out
          have hns67_4 := NB229_208.out
          have hms67_0 := NB208_207.out
          have hms67_2 := NB208_219.out
          have hms67_3 := NB208_220.out
          have hms67_4 := NB208_229.out
          have hs68 : w66.cell? ⟨gb208, 1, none⟩ = some (.int .i64 x209001_2) := zy BK208 1
          have hfs68 := blk_frozen BK208.out 1
          have hns68_0 := NB207_208.out
          have hns68_2 := NB219_208.out
          have hns68_3 := NB220_208.out
          have hns68_4 := NB229_208.out
          have hms68_0 := NB208_207.out
          have hms68_2 := NB208_219.out
          have hms68_3 := NB208_220.out
          have hms68_4 := NB208_229.out
          refine skip_ (w1 := ?_) (by rfl) rfl ?_ ?_
          rotate_left
          ·go_simp
           rfl
          refine hK.out _ _ ⟨((cell_far (p := ⟨gb208, _, none⟩) NB219_208.out _).trans (((cell_far (p := ⟨gb208, _, none⟩) NB219_208.out _).trans (hHeld.1)))), ((cell_far (p := ⟨gb208, _, none⟩) NB219_208.out _).trans (((cell_far (p := ⟨gb208, _, none⟩) NB219_208.out _).trans (hHeld.2.1)))), ((cell_far (p := ⟨gb208, _, none⟩) NB229_208.out _).trans (((cell_far (p := ⟨gb208, _, none⟩) NB229_208.out _).trans (hHeld.2.2.1)))), ((cell_far (p := ⟨gb208, _, none⟩) NB229_208.out _).trans (((cell_far (p := ⟨gb208, _, none⟩) NB229_208.out _).trans (hHeld.2.2.2))))⟩ (fun hHeld => ?_)
          clear hK K
          refine done_ (by kernel_rfl) ?_
          try go_wp2
          refine bodyPost_ret (results_cell_row rfl _ _ gb208 29 #[.int .i64 t232, .int .i64 t233] (0, 0) _ rfl (by refine zm ?_; refine blk_put (cs := #[.int .i64 t232, .int .i64 x209001_2]) ?_ 1 _ rfl; refine zm ?_; refine blk_put (cs := #[.int .i64 x209000_2, .int .i64 x209001_2]) ?_ 0 _ rfl; refine zm ?_; exact BK208.out) Try.underlying29 rfl (by kernel_rfl)) rfl ?_
          exact ⟨ze, zh⟩
      ·rw [if_neg c15] at H
       have c15b0 : decide (x5_2 < (l0.length : Int)) = false := decide_eq_false c15
       clear c15
       replace H := zi H
       obtain ⟨⟨t213, t214⟩, A690, H⟩ := H
       try dsimp only at H
       have A69 := Aside0.mk A690
       clear A690
       simp only [Option.some.injEq, Prod.mk.injEq] at H
       obtain ⟨rfl, rfl⟩ := H
       go_wp2_with (first | ((with_reducible refine gC 58 rfl ?_); refine gL 76 Try.func58 #[.int .i64 0] ?_; (with_reducible refine (agonicref05_whole.calls 0 t213 t214 _ A69.out).mono ?_); rintro e w70 ⟨rfl, hb⟩; refine ⟨_, rfl, ?_⟩; replace BK208 := zk BK208 hb; replace HB := zd hb; (try clear hb); have hnb71 := NB208_207.out; have hnc71 := NB207_208.out; have hcz72_0 : w70.cell? ⟨gb208, 0, none⟩ = some (.int .i64 x209000_2) := zy BK208 0; have hcz72_1 : w70.cell? ⟨gb208, 1, none⟩ = some (.int .i64 x209001_2) := zy BK208 1; have hfz72_0 := blk_frozen BK208.out 0; have hfz72_1 := blk_frozen BK208.out 1))
       refine bodyPost_ret (results_cell_row rfl _ _ gb208 29 #[.int .i64 t213, .int .i64 t214] (0, 0) _ rfl (by refine zm ?_; refine blk_put (cs := #[.int .i64 t213, .int .i64 x209001_2]) ?_ 1 _ rfl; refine zm ?_; refine blk_put (cs := #[.int .i64 x209000_2, .int .i64 x209001_2]) ?_ 0 _ rfl; refine zm ?_; exact BK208.out) Try.underlying29 rfl (by kernel_rfl)) rfl ?_
       exact ⟨ze, zh⟩
 ·rw [if_neg c3] at H
  exact absurd H (by simp)
end Go.Proofs.Ytccjefoejjnccaa.C
