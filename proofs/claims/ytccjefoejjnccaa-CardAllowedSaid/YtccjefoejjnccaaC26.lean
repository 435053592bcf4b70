-- Written by a program of this session (wip/tools/myprint.py, over the kit's print).
import Derived.Test.YtccjefoejjnccaaC0
import Derived.Test.YtccjefoejjnccaaC5
import Derived.Test.YtccjefoejjnccaaC19
import Derived.Test.YtccjefoejjnccaaC21
import Derived.Test.YtccjefoejjnccaaC22
import Derived.Test.YtccjefoejjnccaaH13
import Derived.Test.YtccjefoejjnccaaZ
namespace Go.Proofs.Ytccjefoejjnccaa.C
open Go.Proofs.Ytccjefoejjnccaa.H
open Go.RowKit Go.Proofs.YtccjefoejjnccaaW.PrintWords Go.Proofs.YtccjefoejjnccaaW.PrintLast Go.Proofs.YtccjefoejjnccaaW.PrintMore
attribute [local go_sem] max2_int min2_int max_two min_two max_three min_three max_four min_four   -- for this text's walks alone
set_option linter.unusedVariables false
set_option linter.unusedSimpArgs false
def agoniclaw05_CardAllowed.j0 : Nat → Int → List (S29) → Bool → Int → Int → Option (Bool)
 | 0, _, _, _, _, _ => none
 | k + 1, x6, x9, x58, x745000, x745001 => if x58 = true then (some false) else (if 0 < (x9.length : Int) then ((agoniclaw05_part.f (wrap64 ((wrap64 (((rd_T29 x9 0).f0) * x745001)) + (wrap64 (x745000 * ((rd_T29 x9 0).f1))))) (wrap64 (((rd_T29 x9 0).f1) * x745001))).bind fun bt757 => ((agoniclaw05_leads.f bt757.1 bt757.2 x6).bind fun t759 => (if t759 = true then ((agoniclaw05_works.f).bind fun t760 => (some t760)) else (some false)))) else (none))
def agoniclaw05_CardAllowed.f (k : Nat) (l0_0 : List (S81)) (a0_1 : Int) (a1 : Int) : Option (Bool) := (agoniclaw05_Rose_made.f k l0_0 a0_1).bind fun t738 => ((card_Allowance.f k t738 (Int.tmod (wrap64 (a1)) 3600)).bind fun bt741 => ((card_Courses.f k t738 (Int.tmod (wrap64 (a1)) 3600)).bind fun bt745 => ((agoniclaw05_sound.f k t738).bind fun t749 => (if t749 = true then (if bt741.2.2 = 0 then (if bt745.2 = 0 then (if (bt745.1.length : Int) = 1 then ((agoniclaw05_small.f bt741.1 bt741.2.1).bind fun t751 => (if t751 = true then (if 0 < (bt745.1.length : Int) then ((agoniclaw05_fit.f ((rd_T29 bt745.1 0).f0) ((rd_T29 bt745.1 0).f1) 3600).bind fun t753 => (agoniclaw05_CardAllowed.j0 k (Int.tmod (wrap64 (a1)) 3600) bt745.1 (!t753) bt741.1 bt741.2.1)) else (none)) else (agoniclaw05_CardAllowed.j0 k (Int.tmod (wrap64 (a1)) 3600) bt745.1 true bt741.1 bt741.2.1))) else (agoniclaw05_CardAllowed.j0 k (Int.tmod (wrap64 (a1)) 3600) bt745.1 true bt741.1 bt741.2.1)) else (agoniclaw05_CardAllowed.j0 k (Int.tmod (wrap64 (a1)) 3600) bt745.1 true bt741.1 bt741.2.1)) else (agoniclaw05_CardAllowed.j0 k (Int.tmod (wrap64 (a1)) 3600) bt745.1 true bt741.1 bt741.2.1)) else (if bt741.2.2 = 21 then ((agoniclaw05_works.f).bind fun t750 => (some t750)) else (some false))))))
def agoniclaw05_CardAllowed.T9 : Bool × List (List Nat × List Nat) := (true, [([], []), ([0], [0]), ([1], [1]), ([2], [2]), ([], []), ([4], [4]), ([3, 5], [3, 5]), ([], []), ([7], [7]), ([], []), ([9], [9]), ([10], [10]), ([11], [11]), ([8, 12], [8, 12]), ([6, 13], [6, 13]), ([], []), ([15], [15]), ([16], [16]), ([17], [17]), ([], []), ([19], [19]), ([18, 20], [18, 20]), ([14, 21], [14, 21]), ([], []), ([22, 23, 22], [22, 23]), ([24, 24], [24]), ([25, 25], [25]), ([25, 26], [25, 26]), ([27, 26, 0, 1, 2, 3, 4, 5, 6, 7, 8, 9, 10, 11, 12, 13, 14, 15, 16, 17, 18, 19, 20, 21, 22, 23, 24, 25, 26, 27], [27])])
def agoniclaw05_CardAllowed.B9 : List Nat := [0, 1, 3, 7, 0, 16, 63, 0, 128, 0, 512, 1536, 3584, 8064, 16383, 0, 32768, 98304, 229376, 0, 524288, 2064384, 4194303, 0, 16777215, 33554431, 67108863, 134217727, 268435455]
theorem agoniclaw05_CardAllowed.tab9 : rtab .any (opsOf Try.f10 9) = agoniclaw05_CardAllowed.T9 := by kernel_rfl
theorem agoniclaw05_CardAllowed.bits9 : waitsOk agoniclaw05_CardAllowed.T9.2 agoniclaw05_CardAllowed.B9 = true := by kernel_rfl
set_option maxHeartbeats 8000000 in
set_option maxRecDepth 100000 in
theorem agoniclaw05_CardAllowed.calls (k : Nat) (A0_0 : Option Addr) (c0_0 : Nat) (l0_0 : List (S81)) (a0_1 : Int) (a1 : Int) (r_ : Bool) (w : World) (hr0_0 : Kd.C k81 w A0_0 l0_0.length l0_0) (hc0_0 : l0_0.length ≤ c0_0) (h : agoniclaw05_CardAllowed.f k l0_0 a0_1 a1 = some true) :
  Calls Try.prog 10 #[.agg #[.slice A0_0 l0_0.length c0_0, .int .u8 a0_1], .int .u16 a1] w fun e w' => e = .returned (.bool true) ∧ Below w.heap.size w w' := by
 have hu72 := Try.underlying72
 have hu29 := Try.underlying29
 have HR0_0 := Aside0.mk hr0_0
 have HC0_0 := Aside0.mk hc0_0
 clear hr0_0 hc0_0
 have HB := Aside0.mk (Below.refl w.heap.size w)
 have H : ((agoniclaw05_Rose_made.f k l0_0 a0_1).bind fun t738 => ((card_Allowance.f k t738 (Int.tmod (wrap64 (a1)) 3600)).bind fun bt741 => ((card_Courses.f k t738 (Int.tmod (wrap64 (a1)) 3600)).bind fun bt745 => ((agoniclaw05_sound.f k t738).bind fun t749 => (if t749 = true then (if bt741.2.2 = 0 then (if bt745.2 = 0 then (if (bt745.1.length : Int) = 1 then ((agoniclaw05_small.f bt741.1 bt741.2.1).bind fun t751 => (if t751 = true then (if 0 < (bt745.1.length : Int) then ((agoniclaw05_fit.f ((rd_T29 bt745.1 0).f0) ((rd_T29 bt745.1 0).f1) 3600).bind fun t753 => (agoniclaw05_CardAllowed.j0 k (Int.tmod (wrap64 (a1)) 3600) bt745.1 (!t753) bt741.1 bt741.2.1)) else (none)) else (agoniclaw05_CardAllowed.j0 k (Int.tmod (wrap64 (a1)) 3600) bt745.1 true bt741.1 bt741.2.1))) else (agoniclaw05_CardAllowed.j0 k (Int.tmod (wrap64 (a1)) 3600) bt745.1 true bt741.1 bt741.2.1)) else (agoniclaw05_CardAllowed.j0 k (Int.tmod (wrap64 (a1)) 3600) bt745.1 true bt741.1 bt741.2.1)) else (agoniclaw05_CardAllowed.j0 k (Int.tmod (wrap64 (a1)) 3600) bt745.1 true bt741.1 bt741.2.1)) else (if bt741.2.2 = 21 then ((agoniclaw05_works.f).bind fun t750 => (some t750)) else (some false))))))) = some true := h
 clear h
 replace H := zi H
 obtain ⟨t738, A30, H⟩ := H
 try dsimp only at H
 have A3 := Aside0.mk A30
 clear A30
 replace H := zi H
 obtain ⟨⟨t741, t742, t743⟩, A40, H⟩ := H
 try dsimp only at H
 have A4 := Aside0.mk A40
 clear A40
 replace H := zi H
 obtain ⟨⟨t745, t746⟩, A50, H⟩ := H
 try dsimp only at H
 have A5 := Aside0.mk A50
 clear A50
 replace H := zi H
 obtain ⟨t749, A60, H⟩ := H
 try dsimp only at H
 have A6 := Aside0.mk A60
 clear A60
 by_cases c7 : t749 = true
 ·subst c7
  rw [if_pos rfl] at H
  have HC8 := Aside0.mk H
  clear H
  go_enter Try.func10, Try.ntmps10
  go_upto_region 7 with (first | ((with_reducible refine gD 2 rfl ?_); (try (refine gate_guard (by rfl) ?_; dsimp only)); refine zx 2 #[.slice A0_0 l0_0.length c0_0, .int .u8 a0_1] 72 ?_; intro gb737 hg w9 hbox hb; have BK737 := Aside0.mk (hbox); have GE737 := zG w hg; replace HB := zd hb; clear hb hbox hg; have hcz10_0 : w9.cell? ⟨gb737, 0, none⟩ = some (.slice A0_0 l0_0.length c0_0) := zy BK737 0; have hcz10_1 : w9.cell? ⟨gb737, 1, none⟩ = some (.int .u8 a0_1) := zy BK737 1; have hfz10_0 := blk_frozen BK737.out 0; have hfz10_1 := blk_frozen BK737.out 1) | ((with_reducible refine gC 37 rfl ?_); refine gL 12 Try.func37 #[.agg #[.slice A0_0 l0_0.length c0_0, .int .u8 a0_1]] ?_; (with_reducible refine (agoniclaw05_Rose_made.calls k _ _ l0_0 a0_1 t738 _ ?side1 ?side2 A3.out).mono ?_); (case side1 => exact zc (Kd.C_below HR0_0.out HB.out)); (case side2 => exact HC0_0.out); rintro e w11 ⟨v739, rfl, ho0, hb⟩; refine ⟨_, rfl, ?_⟩; have HO740 := Aside0.mk (Kd.R_lower ho0 (below_size zh)); replace BK737 := zk BK737 hb; replace HB := zd hb; (try clear hb); (try clear ho0); obtain ⟨Ao12, co12, eo12⟩ := Kd.R_slice HO740.out; subst eo12) | ((with_reducible refine gC 25 rfl ?_); refine gL 19 Try.func25 #[.slice Ao12 t738.length co12, .int .i64 (Int.tmod (wrap64 (a1)) 3600)] ?_; (with_reducible refine (card_Allowance.calls k _ _ t738 (Int.tmod (wrap64 (a1)) 3600) t741 t742 t743 _ ?side1 ?side2 A4.out).mono ?_); (case side1 => exact zc (Kd.R_reads' HO740.out).2.2); (case side2 => exact (Kd.R_reads' HO740.out).2.1); rintro e w13 ⟨rfl, hb⟩; refine ⟨_, rfl, ?_⟩; replace HO740 := zr HO740 hb; replace BK737 := zk BK737 hb; replace HB := zd hb; (try clear hb)) | ((with_reducible refine gD 7 rfl ?_); (try (refine gate_guard (by rfl) ?_; dsimp only)); refine zx 7 #[.int .i64 0, .int .i64 0] 29 ?_; intro gb744 hg w14 hbox hb; replace HO740 := zr HO740 hb; have BK744 := Aside0.mk (hbox); have GE744 := zG w hg; replace HB := zd hb; have NB737_744 := zN BK737 hg; have NB744_737 := zM BK737 hg; replace BK737 := zk BK737 hb; clear hb hbox hg; have hnb15 := NB744_737.out; have hnc15 := NB737_744.out; have hcz16_0 : w14.cell? ⟨gb744, 0, none⟩ = some (.int .i64 0) := zy BK744 0; have hcz16_1 : w14.cell? ⟨gb744, 1, none⟩ = some (.int .i64 0) := zy BK744 1; have hfz16_0 := blk_frozen BK744.out 0; have hfz16_1 := blk_frozen BK744.out 1) | ((with_reducible refine gC 23 rfl ?_); refine gL 25 Try.func23 #[.slice Ao12 t738.length co12, .int .i64 (Int.tmod (wrap64 (a1)) 3600)] ?_; (with_reducible refine (card_Courses.calls k _ _ t738 (Int.tmod (wrap64 (a1)) 3600) t745 t746 _ ?side1 ?side2 A5.out).mono ?_); (case side1 => refine (Kd.R_reads' (e := 55) (base := w.heap.size) (ok := fun k_ => True) (n := t738.length) (c := co12) ?_).2.2; exact (by refine zl ?_; exact (Kd.R_mono (Kd.R_far (p := ⟨gb744, 1, none⟩) (Kd.R_far (p := ⟨gb744, 0, none⟩) (Kd.R_types HO740.out BK744.out (by decide)) (fun _ hk => hk.2) (.int .i64 t741)) (fun _ hk => hk.2) (.int .i64 t742)) (fun _ h_ => h_.1)))); (case side2 => exact (Kd.R_reads' HO740.out).2.1); rintro e w17 ⟨v747, rfl, ho0, hb⟩; refine ⟨_, rfl, ?_⟩; replace HO740 := Aside0.mk (Kd.R_below (by refine zl ?_; exact (Kd.R_mono (Kd.R_far (p := ⟨gb744, 1, none⟩) (Kd.R_far (p := ⟨gb744, 0, none⟩) (Kd.R_types HO740.out BK744.out (by decide)) (fun _ hk => hk.2) (.int .i64 t741)) (fun _ hk => hk.2) (.int .i64 t742)) (fun _ h_ => h_.1))) hb); have HO748 := Aside0.mk (Kd.R_lower (Kd.R_newB ho0 (g := gb744) (o := .cells #[.int .i64 t741, .int .i64 t742] 29 (0, 0)) (by refine zm ?_; refine blk_put (cs := #[.int .i64 t741, .int .i64 0]) ?_ 1 _ rfl; refine zm ?_; refine blk_put (cs := #[.int .i64 0, .int .i64 0]) ?_ 0 _ rfl; refine zm ?_; exact BK744.out)) (below_size zh)); replace BK737 := Aside0.mk (blk_below (g := gb737) (o := .cells #[.slice A0_0 l0_0.length c0_0, .int .u8 a0_1] 72 (0, 0)) (by refine zm ?_; refine blk_far ?_ NB737_744.out _; refine zm ?_; refine blk_far ?_ NB737_744.out _; refine zm ?_; exact BK737.out) hb); replace BK744 := Aside0.mk (blk_below (g := gb744) (o := .cells #[.int .i64 t741, .int .i64 t742] 29 (0, 0)) (by refine zm ?_; refine blk_put (cs := #[.int .i64 t741, .int .i64 0]) ?_ 1 _ rfl; refine zm ?_; refine blk_put (cs := #[.int .i64 0, .int .i64 0]) ?_ 0 _ rfl; refine zm ?_; exact BK744.out) hb); replace HB := zd hb; (try clear hb); (try clear hk); (try clear ho0)) | ((with_reducible refine gC 42 rfl ?_); refine gL 29 Try.func42 #[.slice Ao12 t738.length co12] ?_; (with_reducible refine (agoniclaw05_sound.calls k _ _ t738 true _ ?side1 ?side2 A6.out).mono ?_); (case side1 => exact zc (Kd.R_reads' HO740.out).2.2); (case side2 => exact (Kd.R_reads' HO740.out).2.1); rintro e w18 ⟨rfl, hb⟩; refine ⟨_, rfl, ?_⟩; replace HO748 := zr HO748 hb; replace BK737 := zk BK737 hb; replace BK744 := zk BK744 hb; replace HB := zd hb; (try clear hb)))
  (try simp only [Act.put, List.setIfInBounds_toArray, List.set_cons_zero, List.set_cons_succ])
  go_cut [58] (fun v58 wc => ∃ (kq : Nat) (x58_7 : Bool), v58 = .bool x58_7 ∧ Aside0 (agoniclaw05_CardAllowed.j0 kq (Int.tmod (wrap64 (a1)) 3600) t745 x58_7 t741 t742 = some true) ∧ Aside0 (kq ≤ k) ∧ Aside0 (Kd.R k29 29 wc w.heap.size (fun k_ => k_ ≠ gb744) v747 t745) ∧ Aside0 (wc.heap[gb737]? = some (.cells #[(.slice A0_0 l0_0.length c0_0), .int .u8 a0_1] 72 (0, 0))) ∧ Aside0 (wc.heap[gb744]? = some (.cells #[.int .i64 t741, .int .i64 t742] 29 (0, 0))) ∧ Aside0 (Below w.heap.size w wc))
  case first =>
   have H := HC8.out
   clear HC8
   by_cases c19 : t743 = 0
   ·rw [if_pos c19] at H
    have c19b0 : (t743 == 0) = true := beq_iff_eq.mpr c19
    have c19b1 : (t743 != 0) = false := bne_eq_false_iff_eq.mpr c19
    clear c19
    (first | rw [c19b0] | (simp only [i64_w, i32_w]; rw [c19b0]) | skip)
    by_cases c20 : t746 = 0
    ·rw [if_pos c20] at H
     have c20b0 : (t746 == 0) = true := beq_iff_eq.mpr c20
     have c20b1 : (t746 != 0) = false := bne_eq_false_iff_eq.mpr c20
     clear c20
     by_cases c21 : (t745.length : Int) = 1
     ·rw [if_pos c21] at H
      have c21b0 : ((t745.length : Int) == 1) = true := beq_iff_eq.mpr c21
      have c21b1 : ((t745.length : Int) != 1) = false := bne_eq_false_iff_eq.mpr c21
      clear c21
      replace H := zi H
      obtain ⟨t751, A220, H⟩ := H
      try dsimp only at H
      have A22 := Aside0.mk A220
      clear A220
      by_cases c23 : t751 = true
      ·subst c23
       rw [if_pos rfl] at H
       by_cases c24 : 0 < (t745.length : Int)
       ·rw [if_pos c24] at H
        have c24b0 : decide (0 < (t745.length : Int)) = true := decide_eq_true c24
        have c24b1 : decide (0 < t745.length) = true := decide_eq_true (by omega)
        clear c24
        replace H := zi H
        obtain ⟨t753, A250, H⟩ := H
        try dsimp only at H
        have A25 := Aside0.mk A250
        clear A250
        have H' := Aside0.mk H
        clear H
        obtain ⟨Ao26, co26, eo26⟩ := Kd.R_slice HO748.out
        subst eo26
        have hnb27 := NB744_737.out
        have hnc27 := NB737_744.out
        have hcz28_0 : w18.cell? ⟨gb744, 0, none⟩ = some (.int .i64 t741) := zy BK744 0
        have hcz28_1 : w18.cell? ⟨gb744, 1, none⟩ = some (.int .i64 t742) := zy BK744 1
        have hfz28_0 := blk_frozen BK744.out 0
        have hfz28_1 := blk_frozen BK744.out 1
        go_wp2_with (first | (go_at_call 45; (with_reducible refine (agoniclaw05_small.calls t741 t742 true _ A22.out).mono ?_); rintro e w29 ⟨rfl, hb⟩; replace HO748 := zr HO748 hb; replace BK737 := zk BK737 hb; replace BK744 := zk BK744 hb; replace HB := zd hb; (try clear hb); have p752 : 0 ≤ (0 : Int) := (by omega); have q752 : 0 < (t745.length : Int) := zp; obtain ⟨ad752, e752, hx752_0, hx752_1⟩ := at_T29 (Kd.R_reads' HO748.out).2.2 0 p752 q752; cases e752; have qi752 : (0 < t745.length) = True := eq_true (by omega); (try rw [show ((0 : Int)).toNat = 0 from rfl] at hx752_0); (try rw [show 0 * 2 = 0 from rfl] at hx752_0); (try rw [Addr.add_zero'] at hx752_0); (try rw [show ((0 : Int)).toNat = 0 from rfl] at hx752_1); (try rw [show 0 * 2 = 0 from rfl] at hx752_1); (try rw [Addr.add_zero'] at hx752_1); replace p752 := eq_true p752; replace q752 := eq_true q752) | (go_at_call 39; (with_reducible refine (agoniclaw05_fit.calls ((rd_T29 t745 0).f0) ((rd_T29 t745 0).f1) 3600 t753 _ A25.out).mono ?_); rintro e w30 ⟨rfl, hb⟩; replace HO748 := zr HO748 hb; replace BK737 := zk BK737 hb; replace BK744 := zk BK744 hb; replace HB := zd hb; (try clear hb)))
        go_meet
        case rel => exact ⟨_, (!t753), (by first | rfl | (simp; done) | (simp [*]; done)), H', ⟨by first | omega | exact Nat.le_refl _⟩, ⟨by refine zl ?_; exact Kd.R_mono HO748.out (fun _ hk => hk.2)⟩, ⟨by refine zm ?_; exact BK737.out⟩, ⟨by refine zm ?_; exact BK744.out⟩, ⟨zh⟩⟩
       ·rw [if_neg c24] at H
        exact absurd H (by simp)
      ·replace c23 := Bool.eq_false_iff.mpr c23
       subst c23
       rw [if_neg (show ¬ (false = true) by decide)] at H
       have H' := Aside0.mk H
       clear H
       obtain ⟨Ao31, co31, eo31⟩ := Kd.R_slice HO748.out
       subst eo31
       have hnb32 := NB744_737.out
       have hnc32 := NB737_744.out
       have hcz33_0 : w18.cell? ⟨gb744, 0, none⟩ = some (.int .i64 t741) := zy BK744 0
       have hcz33_1 : w18.cell? ⟨gb744, 1, none⟩ = some (.int .i64 t742) := zy BK744 1
       have hfz33_0 := blk_frozen BK744.out 0
       have hfz33_1 := blk_frozen BK744.out 1
       go_wp2_with (first | (go_at_call 45; (with_reducible refine (agoniclaw05_small.calls t741 t742 false _ A22.out).mono ?_); rintro e w34 ⟨rfl, hb⟩; replace HO748 := zr HO748 hb; replace BK737 := zk BK737 hb; replace BK744 := zk BK744 hb; replace HB := zd hb; (try clear hb)))
       go_meet
       case rel => exact ⟨_, (true), (by first | rfl | (simp; done) | (simp [*]; done)), H', ⟨by first | omega | exact Nat.le_refl _⟩, ⟨by refine zl ?_; exact Kd.R_mono HO748.out (fun _ hk => hk.2)⟩, ⟨by refine zm ?_; exact BK737.out⟩, ⟨by refine zm ?_; exact BK744.out⟩, ⟨zh⟩⟩
     ·rw [if_neg c21] at H
      have c21b0 : ((t745.length : Int) == 1) = false := beq_eq_false_iff_ne.mpr c21
      have c21b1 : ((t745.length : Int) != 1) = true := bne_iff_ne.mpr c21
      have H' := Aside0.mk H
      clear H
      obtain ⟨Ao35, co35, eo35⟩ := Kd.R_slice HO748.out
      subst eo35
      go_wp2
      go_meet
      case rel => exact ⟨_, (true), (by first | rfl | (simp; done) | (simp [*]; done)), H', ⟨by first | omega | exact Nat.le_refl _⟩, ⟨by refine zl ?_; exact Kd.R_mono HO748.out (fun _ hk => hk.2)⟩, ⟨by refine zm ?_; exact BK737.out⟩, ⟨by refine zm ?_; exact BK744.out⟩, ⟨zh⟩⟩
    ·rw [if_neg c20] at H
     have c20b0 : (t746 == 0) = false := beq_eq_false_iff_ne.mpr c20
     have c20b1 : (t746 != 0) = true := bne_iff_ne.mpr c20
     have H' := Aside0.mk H
     clear H
     go_wp2
     go_meet
     case rel => exact ⟨_, (true), (by first | rfl | (simp; done) | (simp [*]; done)), H', ⟨by first | omega | exact Nat.le_refl _⟩, ⟨by refine zl ?_; exact Kd.R_mono HO748.out (fun _ hk => hk.2)⟩, ⟨by refine zm ?_; exact BK737.out⟩, ⟨by refine zm ?_; exact BK744.out⟩, ⟨zh⟩⟩
   ·rw [if_neg c19] at H
    have c19b0 : (t743 == 0) = false := beq_eq_false_iff_ne.mpr c19
    have c19b1 : (t743 != 0) = true := bne_iff_ne.mpr c19
    (first | rw [c19b0] | (simp only [i64_w, i32_w]; rw [c19b0]) | skip)
    have H' := Aside0.mk H
    clear H
    go_wp2
    go_meet
    case rel => exact ⟨_, (true), (by first | rfl | (simp; done) | (simp [*]; done)), H', ⟨by first | omega | exact Nat.le_refl _⟩, ⟨by refine zl ?_; exact Kd.R_mono HO748.out (fun _ hk => hk.2)⟩, ⟨by refine zm ?_; exact BK737.out⟩, ⟨by refine zm ?_; exact BK744.out⟩, ⟨zh⟩⟩
  case rest =>
   clear HC8
   try clear c1
   try clear c2
   try clear p2
   try clear c3
   try clear c4
   try clear p6
   try clear c7
   try clear p7
   try clear q7
   try clear hx7
   try clear qi7
   try clear c10
   try clear c15
   try clear c19
   try clear c19b0
   try clear c19b1
   try clear c20
   try clear c20b0
   try clear c20b1
   try clear c21
   try clear c21b0
   try clear c21b1
   try clear c23
   try clear c24
   try clear c24b0
   try clear c24b1
   try clear c25
   try clear c27
   try clear c32
   try clear hcz10_0
   try clear hcz10_1
   try clear hcz16_0
   try clear hcz16_1
   try clear hcz28_0
   try clear hcz28_1
   try clear hcz33_0
   try clear hcz33_1
   try clear hfz10_0
   try clear hfz10_1
   try clear hfz16_0
   try clear hfz16_1
   try clear hfz28_0
   try clear hfz28_1
   try clear hfz33_0
   try clear hfz33_1
   try clear hx752_0
   try clear hx752_1
   try clear p752
   try clear q752
   obtain ⟨kq, x58_7, rfl, HA, HJ7, HO_9, BK737, BK744, HB⟩ := hcut
   cases kq with
   | zero => exact absurd HA.out (by simp [agoniclaw05_CardAllowed.j0])
   | succ kj7 =>
    have H := HA.out
    clear HA
    simp only [agoniclaw05_CardAllowed.j0] at H
    by_cases c36 : x58_7 = true
    ·subst c36
     rw [if_pos rfl] at H
     exact absurd (Option.some.inj H) (by decide)
    ·replace c36 := Bool.eq_false_iff.mpr c36
     subst c36
     rw [if_neg (show ¬ (false = true) by decide)] at H
     by_cases c37 : 0 < (t745.length : Int)
     ·rw [if_pos c37] at H
      have c37b0 : decide (0 < (t745.length : Int)) = true := decide_eq_true c37
      have c37b1 : decide (0 < t745.length) = true := decide_eq_true (by omega)
      clear c37
      replace H := zi H
      obtain ⟨⟨t757, t758⟩, A380, H⟩ := H
      try dsimp only at H
      have A38 := Aside0.mk A380
      clear A380
      replace H := zi H
      obtain ⟨t759, A390, H⟩ := H
      try dsimp only at H
      have A39 := Aside0.mk A390
      clear A390
      by_cases c40 : t759 = true
      ·subst c40
       rw [if_pos rfl] at H
       replace H := zi H
       obtain ⟨t760, A410, H⟩ := H
       try dsimp only at H
       have A41 := Aside0.mk A410
       clear A410
       obtain rfl := Option.some.inj H
       try go_wp2
       replace HO_9 := Aside0.mk (Kd.R_drew HO_9.out)
       replace BK737 := Aside0.mk (blk_drew BK737.out)
       replace BK744 := Aside0.mk (blk_drew BK744.out)
       replace HB := Aside0.mk (below_drew1 HB.out)
       obtain ⟨Ao43, co43, eo43⟩ := Kd.R_slice HO_9.out
       (first | subst eo43 | (injection eo43 with f1_ f2_ f3_; have f4_ := f1_.symm; have f5_ := f3_.symm; clear f1_ f2_ f3_; subst f4_; subst f5_))
       have p754 : 0 ≤ (0 : Int) := (by omega)
       have q754 : 0 < (t745.length : Int) := zp
       obtain ⟨ad754, e754, hx754_0, hx754_1⟩ := at_T29 (Kd.R_reads' HO_9.out).2.2 0 p754 q754
       cases e754
       have qi754 : (0 < t745.length) = True := eq_true (by omega)
       (try rw [show ((0 : Int)).toNat = 0 from rfl] at hx754_0)
       (try rw [show 0 * 2 = 0 from rfl] at hx754_0)
       (try rw [Addr.add_zero'] at hx754_0)
       (try rw [show ((0 : Int)).toNat = 0 from rfl] at hx754_1)
       (try rw [show 0 * 2 = 0 from rfl] at hx754_1)
       (try rw [Addr.add_zero'] at hx754_1)
       replace p754 := eq_true p754
       replace q754 := eq_true q754
       have p755 : 0 ≤ (0 : Int) := (by omega)
       have q755 : 0 < (t745.length : Int) := zp
       obtain ⟨ad755, e755, hx755_0, hx755_1⟩ := at_T29 (Kd.R_reads' HO_9.out).2.2 0 p755 q755
       obtain rfl : ad754 = ad755 := (by injection e755)
       have qi755 : (0 < t745.length) = True := eq_true (by omega)
       (try rw [show ((0 : Int)).toNat = 0 from rfl] at hx755_0)
       (try rw [show 0 * 2 = 0 from rfl] at hx755_0)
       (try rw [Addr.add_zero'] at hx755_0)
       (try rw [show ((0 : Int)).toNat = 0 from rfl] at hx755_1)
       (try rw [show 0 * 2 = 0 from rfl] at hx755_1)
       (try rw [Addr.add_zero'] at hx755_1)
       replace p755 := eq_true p755
       replace q755 := eq_true q755
       have p756 : 0 ≤ (0 : Int) := (by omega)
       have q756 : 0 < (t745.length : Int) := zp
       obtain ⟨ad756, e756, hx756_0, hx756_1⟩ := at_T29 (Kd.R_reads' HO_9.out).2.2 0 p756 q756
       obtain rfl : ad754 = ad756 := (by injection e756)
       have qi756 : (0 < t745.length) = True := eq_true (by omega)
       (try rw [show ((0 : Int)).toNat = 0 from rfl] at hx756_0)
       (try rw [show 0 * 2 = 0 from rfl] at hx756_0)
       (try rw [Addr.add_zero'] at hx756_0)
       (try rw [show ((0 : Int)).toNat = 0 from rfl] at hx756_1)
       (try rw [show 0 * 2 = 0 from rfl] at hx756_1)
       (try rw [Addr.add_zero'] at hx756_1)
       replace p756 := eq_true p756
       replace q756 := eq_true q756
       refine start_ (n := 29) (S := fun w' => w'.cell? ⟨gb744, 0, none⟩ = some (.int .i64 t741) ∧ w'.cell? ⟨gb744, 1, none⟩ = some (.int .i64 t742) ∧ w'.cell? ad754 = some (.int .i64 ((rd_T29 t745 0).f0)) ∧ w'.cell? ⟨ad754.block, ad754.off + 1, none⟩ = some (.int .i64 ((rd_T29 t745 0).f1)) ∧ w'.cell? ad754 = some (.int .i64 ((rd_T29 t745 0).f0)) ∧ w'.cell? ⟨ad754.block, ad754.off + 1, none⟩ = some (.int .i64 ((rd_T29 t745 0).f1)) ∧ w'.cell? ad754 = some (.int .i64 ((rd_T29 t745 0).f0)) ∧ w'.cell? ⟨ad754.block, ad754.off + 1, none⟩ = some (.int .i64 ((rd_T29 t745 0).f1))) (ds := []) #[false, false, false, false, false, false, false, false, false, false, false, false, false, false, false, false, false, false, false, false, false, false, false, false, false, false, false, false, false] (by kernel_rfl) rfl rfl ⟨zy BK744 0, zy BK744 1, hx754_0, hx754_1, hx755_0, hx755_1, hx756_0, hx756_1⟩ (fun hHeld => ?_); refine with_tabW agoniclaw05_CardAllowed.tab9 agoniclaw05_CardAllowed.bits9 (fun HT_ HW_ => ?_)
       generalize wc.drew = w42 at HO_9 BK737 BK744 HB hx754_0 hx754_1 hx755_0 hx755_1 hx756_0 hx756_1 hHeld ⊢
       refine pq HT_ 0 59 29 1 ?_
       refine pq HT_ 1 60 29 3 ?_
       refine pq HT_ 2 61 29 7 ?_
       refine pq HT_ 4 63 29 23 ?_
       refine pq HT_ 7 66 29 151 ?_
       refine pq HT_ 9 68 29 663 ?_
       refine pq HT_ 10 69 29 1687 ?_
       refine pq HT_ 11 70 29 3735 ?_
       refine pq HT_ 15 74 29 36503 ?_
       refine pq HT_ 16 75 29 102039 ?_
       refine pq HT_ 17 76 29 233111 ?_
       refine pq HT_ 19 78 29 757399 ?_
       refine pq HT_ 23 82 29 9146007 ?_
       refine take_ (i := 3) (N := some 62) (v := ?_) (a' := ?_) #[true, true, true, true, true, false, false, true, false, true, true, true, false, false, false, true, true, true, false, true, false, false, false, true, false, false, false, false, false] rfl rfl (take_ofW HT_.out HW_.out (by kernel_rfl)) (fun _ _ _ h => h) (Or.inl ⟨by rfl, ?_⟩) hHeld ?_ ?_
       rotate_left
       ·rintro w' ⟨s0, s1, s2, s3, s4, s5, s6, s7⟩
        go_simp
        with_reducible rfl
       rotate_left
       ·simp only [Act.put, List.setIfInBounds_toArray, List.set_cons_zero, List.set_cons_succ, i64_w, i32_w]
        rfl
       refine take_ (i := 5) (N := some 64) (v := ?_) (a' := ?_) #[true, true, true, true, true, true, false, true, false, true, true, true, false, false, false, true, true, true, false, true, false, false, false, true, false, false, false, false, false] rfl rfl (take_ofW HT_.out HW_.out (by kernel_rfl)) (fun _ _ _ h => h) (Or.inl ⟨by rfl, ?_⟩) hHeld ?_ ?_
       rotate_left
       ·rintro w' ⟨s0, s1, s2, s3, s4, s5, s6, s7⟩
        go_simp
        with_reducible rfl
       rotate_left
       ·simp only [Act.put, List.setIfInBounds_toArray, List.set_cons_zero, List.set_cons_succ, i64_w, i32_w]
        rfl
       refine pq HT_ 6 65 29 9146111 ?_
       refine take_ (i := 8) (N := some 67) (v := ?_) (a' := ?_) #[true, true, true, true, true, true, true, true, true, true, true, true, false, false, false, true, true, true, false, true, false, false, false, true, false, false, false, false, false] rfl rfl (take_ofW HT_.out HW_.out (by kernel_rfl)) (fun _ _ _ h => h) (Or.inl ⟨by rfl, ?_⟩) hHeld ?_ ?_
       rotate_left
       ·rintro w' ⟨s0, s1, s2, s3, s4, s5, s6, s7⟩
        go_simp
        with_reducible rfl
       rotate_left
       ·simp only [Act.put, List.setIfInBounds_toArray, List.set_cons_zero, List.set_cons_succ, i64_w, i32_w]
        rfl
       refine take_ (i := 12) (N := some 71) (v := ?_) (a' := ?_) #[true, true, true, true, true, true, true, true, true, true, true, true, true, false, false, true, true, true, false, true, false, false, false, true, false, false, false, false, false] rfl rfl (take_ofW HT_.out HW_.out (by kernel_rfl)) (fun _ _ _ h => h) (Or.inl ⟨by rfl, ?_⟩) hHeld ?_ ?_
       rotate_left
       ·rintro w' ⟨s0, s1, s2, s3, s4, s5, s6, s7⟩
        go_simp
        with_reducible rfl
       rotate_left
       ·simp only [Act.put, List.setIfInBounds_toArray, List.set_cons_zero, List.set_cons_succ, i64_w, i32_w]
        rfl
       refine pq HT_ 13 72 29 9158655 ?_
       refine pq HT_ 14 73 29 9175039 ?_
       refine take_ (i := 18) (N := some 77) (v := ?_) (a' := ?_) #[true, true, true, true, true, true, true, true, true, true, true, true, true, true, true, true, true, true, true, true, false, false, false, true, false, false, false, false, false] rfl rfl (take_ofW HT_.out HW_.out (by kernel_rfl)) (fun _ _ _ h => h) (Or.inl ⟨by rfl, ?_⟩) hHeld ?_ ?_
       rotate_left
       ·rintro w' ⟨s0, s1, s2, s3, s4, s5, s6, s7⟩
        go_simp
        with_reducible rfl
       rotate_left
       ·simp only [Act.put, List.setIfInBounds_toArray, List.set_cons_zero, List.set_cons_succ, i64_w, i32_w]
        rfl
       refine take_ (i := 20) (N := some 79) (v := ?_) (a' := ?_) #[true, true, true, true, true, true, true, true, true, true, true, true, true, true, true, true, true, true, true, true, true, false, false, true, false, false, false, false, false] rfl rfl (take_ofW HT_.out HW_.out (by kernel_rfl)) (fun _ _ _ h => h) (Or.inl ⟨by rfl, ?_⟩) hHeld ?_ ?_
       rotate_left
       ·rintro w' ⟨s0, s1, s2, s3, s4, s5, s6, s7⟩
        go_simp
        with_reducible rfl
       rotate_left
       ·simp only [Act.put, List.setIfInBounds_toArray, List.set_cons_zero, List.set_cons_succ, i64_w, i32_w]
        rfl
       refine pq HT_ 21 80 29 12582911 ?_
       refine one_ (i := 22) (N := some 81) #[true, true, true, true, true, true, true, true, true, true, true, true, true, true, true, true, true, true, true, true, true, true, true, true, false, false, false, false, false] rfl rfl (one_of HT_.out (by kernel_rfl)) (by decide) (fun K hK => ?_)
       refine goes_ Try.func43 (by kernel_rfl) rfl #[.int .i64 (wrap64 ((wrap64 (((rd_T29 t745 0).f0) * t742)) + (wrap64 (t741 * ((rd_T29 t745 0).f1))))), .int .i64 (wrap64 (((rd_T29 t745 0).f1) * t742))] (by rfl) rfl rfl zs ?_
       with_reducible refine (agoniclaw05_part.calls (wrap64 ((wrap64 (((rd_T29 t745 0).f0) * t742)) + (wrap64 (t741 * ((rd_T29 t745 0).f1))))) (wrap64 (((rd_T29 t745 0).f1) * t742)) t757 t758 _ A38.out).mono ?_
       rintro e w44 ⟨rfl, hb⟩
       have HS2_ := (hb.cell (World.block_lt_of_cell? _ _ (hHeld.2.2.1))).trans (hHeld.2.2.1)
       have HS3_ := (hb.cell (World.block_lt_of_cell? _ _ (hHeld.2.2.2.1))).trans (hHeld.2.2.2.1)
       have HS4_ := (hb.cell (World.block_lt_of_cell? _ _ (hHeld.2.2.2.2.1))).trans (hHeld.2.2.2.2.1)
       have HS5_ := (hb.cell (World.block_lt_of_cell? _ _ (hHeld.2.2.2.2.2.1))).trans (hHeld.2.2.2.2.2.1)
       have HS6_ := (hb.cell (World.block_lt_of_cell? _ _ (hHeld.2.2.2.2.2.2.1))).trans (hHeld.2.2.2.2.2.2.1)
       have HS7_ := (hb.cell (World.block_lt_of_cell? _ _ (hHeld.2.2.2.2.2.2.2))).trans (hHeld.2.2.2.2.2.2.2)
       refine ⟨_, rfl, ?_⟩
       replace BK744 := zk BK744 hb
       replace HB := zd hb
       (try clear hb)
       (try clear hb2)
       (try clear hk)
       (try clear hi)
       refine hK.out _ _ ⟨zy BK744 0, zy BK744 1, HS2_, HS3_, HS4_, HS5_, HS6_, HS7_⟩ (fun hHeld => ?_)
       clear hK K
       refine norm_ (a' := ?_) ?_ ?_
       rotate_left
       ·show Act.put _ (some 81) _ = _
        simp only [Act.put, List.setIfInBounds_toArray, List.set_cons_zero, List.set_cons_succ, i64_w, i32_w]
        rfl
       refine one_ (i := 24) (N := some 83) #[true, true, true, true, true, true, true, true, true, true, true, true, true, true, true, true, true, true, true, true, true, true, true, true, true, false, false, false, false] rfl rfl (one_of HT_.out (by kernel_rfl)) (by decide) (fun K hK => ?_)
       refine goes_ Try.func41 (by kernel_rfl) rfl #[.agg #[.int .i64 t757, .int .i64 t758], .int .i64 (Int.tmod (wrap64 (a1)) 3600)] (by rfl) rfl rfl zs ?_
       with_reducible refine (agoniclaw05_leads.calls t757 t758 (Int.tmod (wrap64 (a1)) 3600) true _ A39.out).mono ?_
       rintro e w45 ⟨rfl, hb⟩
       have HS2_ := (hb.cell (World.block_lt_of_cell? _ _ (hHeld.2.2.1))).trans (hHeld.2.2.1)
       have HS3_ := (hb.cell (World.block_lt_of_cell? _ _ (hHeld.2.2.2.1))).trans (hHeld.2.2.2.1)
       have HS4_ := (hb.cell (World.block_lt_of_cell? _ _ (hHeld.2.2.2.2.1))).trans (hHeld.2.2.2.2.1)
       have HS5_ := (hb.cell (World.block_lt_of_cell? _ _ (hHeld.2.2.2.2.2.1))).trans (hHeld.2.2.2.2.2.1)
       have HS6_ := (hb.cell (World.block_lt_of_cell? _ _ (hHeld.2.2.2.2.2.2.1))).trans (hHeld.2.2.2.2.2.2.1)
       have HS7_ := (hb.cell (World.block_lt_of_cell? _ _ (hHeld.2.2.2.2.2.2.2))).trans (hHeld.2.2.2.2.2.2.2)
       refine ⟨_, rfl, ?_⟩
       replace BK744 := zk BK744 hb
       replace HB := zd hb
       (try clear hb)
       (try clear hb2)
       (try clear hk)
       (try clear hi)
       refine hK.out _ _ ⟨zy BK744 0, zy BK744 1, HS2_, HS3_, HS4_, HS5_, HS6_, HS7_⟩ (fun hHeld => ?_)
       clear hK K
       refine norm_ (a' := ?_) ?_ ?_
       rotate_left
       ·show Act.put _ (some 83) _ = _
        simp only [Act.put, List.setIfInBounds_toArray, List.set_cons_zero, List.set_cons_succ, i64_w, i32_w]
        rfl
       refine pq HT_ 25 84 29 67108863 ?_
       refine one_ (i := 26) (N := some 85) #[true, true, true, true, true, true, true, true, true, true, true, true, true, true, true, true, true, true, true, true, true, true, true, true, true, true, true, false, false] rfl rfl (one_of HT_.out (by kernel_rfl)) (by decide) (fun K hK => ?_)
       refine goes_ Try.func14 (by kernel_rfl) rfl #[] (by rfl) rfl rfl zs ?_
       with_reducible refine (agoniclaw05_works.calls  true _ A41.out).mono ?_
       rintro e w46 ⟨rfl, hb⟩
       have HS2_ := (hb.cell (World.block_lt_of_cell? _ _ (hHeld.2.2.1))).trans (hHeld.2.2.1)
       have HS3_ := (hb.cell (World.block_lt_of_cell? _ _ (hHeld.2.2.2.1))).trans (hHeld.2.2.2.1)
       have HS4_ := (hb.cell (World.block_lt_of_cell? _ _ (hHeld.2.2.2.2.1))).trans (hHeld.2.2.2.2.1)
       have HS5_ := (hb.cell (World.block_lt_of_cell? _ _ (hHeld.2.2.2.2.2.1))).trans (hHeld.2.2.2.2.2.1)
       have HS6_ := (hb.cell (World.block_lt_of_cell? _ _ (hHeld.2.2.2.2.2.2.1))).trans (hHeld.2.2.2.2.2.2.1)
       have HS7_ := (hb.cell (World.block_lt_of_cell? _ _ (hHeld.2.2.2.2.2.2.2))).trans (hHeld.2.2.2.2.2.2.2)
       refine ⟨_, rfl, ?_⟩
       replace BK744 := zk BK744 hb
       replace HB := zd hb
       (try clear hb)
       (try clear hb2)
       (try clear hk)
       (try clear hi)
       refine hK.out _ _ ⟨zy BK744 0, zy BK744 1, HS2_, HS3_, HS4_, HS5_, HS6_, HS7_⟩ (fun hHeld => ?_)
       clear hK K
       refine norm_ (a' := ?_) ?_ ?_
       rotate_left
       ·show Act.put _ (some 85) _ = _
        simp only [Act.put, List.setIfInBounds_toArray, List.set_cons_zero, List.set_cons_succ, i64_w, i32_w]
        rfl
       refine pq HT_ 27 86 29 268435455 ?_
       refine pq HT_ 28 4 29 536870911 ?_
       refine done_ (done_of HT_.out (by kernel_rfl)) ?_
       try go_wp2
       go_ret
       exact ⟨ze, zh⟩
      ·replace c40 := Bool.eq_false_iff.mpr c40
       subst c40
       rw [if_neg (show ¬ (false = true) by decide)] at H
       exact absurd (Option.some.inj H) (by decide)
     ·rw [if_neg c37] at H
      exact absurd H (by simp)
 ·replace c7 := Bool.eq_false_iff.mpr c7
  subst c7
  rw [if_neg (show ¬ (false = true) by decide)] at H
  by_cases c51 : t743 = 21
  ·rw [if_pos c51] at H
   have c51b0 : (t743 == 21) = true := beq_iff_eq.mpr c51
   have c51b1 : (t743 != 21) = false := bne_eq_false_iff_eq.mpr c51
   clear c51
   replace H := zi H
   obtain ⟨t750, A520, H⟩ := H
   try dsimp only at H
   have A52 := Aside0.mk A520
   clear A520
   obtain rfl := Option.some.inj H
   go_enter Try.func10, Try.ntmps10
   go_wp2_with (first | ((with_reducible refine gD 2 rfl ?_); (try (refine gate_guard (by rfl) ?_; dsimp only)); refine zx 2 #[.slice A0_0 l0_0.length c0_0, .int .u8 a0_1] 72 ?_; intro gb737 hg w53 hbox hb; have BK737 := Aside0.mk (hbox); have GE737 := zG w hg; replace HB := zd hb; clear hb hbox hg; have hcz54_0 : w53.cell? ⟨gb737, 0, none⟩ = some (.slice A0_0 l0_0.length c0_0) := zy BK737 0; have hcz54_1 : w53.cell? ⟨gb737, 1, none⟩ = some (.int .u8 a0_1) := zy BK737 1; have hfz54_0 := blk_frozen BK737.out 0; have hfz54_1 := blk_frozen BK737.out 1) | ((with_reducible refine gC 37 rfl ?_); refine gL 12 Try.func37 #[.agg #[.slice A0_0 l0_0.length c0_0, .int .u8 a0_1]] ?_; (with_reducible refine (agoniclaw05_Rose_made.calls k _ _ l0_0 a0_1 t738 _ ?side1 ?side2 A3.out).mono ?_); (case side1 => exact zc (Kd.C_below HR0_0.out HB.out)); (case side2 => exact HC0_0.out); rintro e w55 ⟨v739, rfl, ho0, hb⟩; refine ⟨_, rfl, ?_⟩; have HO740 := Aside0.mk (Kd.R_lower ho0 (below_size zh)); replace BK737 := zk BK737 hb; replace HB := zd hb; (try clear hb); (try clear ho0); obtain ⟨Ao56, co56, eo56⟩ := Kd.R_slice HO740.out; subst eo56) | ((with_reducible refine gC 25 rfl ?_); refine gL 19 Try.func25 #[.slice Ao56 t738.length co56, .int .i64 (Int.tmod (wrap64 (a1)) 3600)] ?_; (with_reducible refine (card_Allowance.calls k _ _ t738 (Int.tmod (wrap64 (a1)) 3600) t741 t742 t743 _ ?side1 ?side2 A4.out).mono ?_); (case side1 => exact zc (Kd.R_reads' HO740.out).2.2); (case side2 => exact (Kd.R_reads' HO740.out).2.1); rintro e w57 ⟨rfl, hb⟩; refine ⟨_, rfl, ?_⟩; replace HO740 := zr HO740 hb; replace BK737 := zk BK737 hb; replace HB := zd hb; (try clear hb)) | ((with_reducible refine gD 7 rfl ?_); (try (refine gate_guard (by rfl) ?_; dsimp only)); refine zx 7 #[.int .i64 0, .int .i64 0] 29 ?_; intro gb744 hg w58 hbox hb; replace HO740 := zr HO740 hb; have BK744 := Aside0.mk (hbox); have GE744 := zG w hg; replace HB := zd hb; have NB737_744 := zN BK737 hg; have NB744_737 := zM BK737 hg; clear hb hbox hg; have hnb59 := NB744_737.out; have hnc59 := NB737_744.out; have hcz60_0 : w58.cell? ⟨gb744, 0, none⟩ = some (.int .i64 0) := zy BK744 0; have hcz60_1 : w58.cell? ⟨gb744, 1, none⟩ = some (.int .i64 0) := zy BK744 1; have hfz60_0 := blk_frozen BK744.out 0; have hfz60_1 := blk_frozen BK744.out 1) | ((with_reducible refine gC 23 rfl ?_); refine gL 25 Try.func23 #[.slice Ao56 t738.length co56, .int .i64 (Int.tmod (wrap64 (a1)) 3600)] ?_; (with_reducible refine (card_Courses.calls k _ _ t738 (Int.tmod (wrap64 (a1)) 3600) t745 t746 _ ?side1 ?side2 A5.out).mono ?_); (case side1 => refine (Kd.R_reads' (e := 55) (base := w.heap.size) (ok := fun k_ => True) (n := t738.length) (c := co56) ?_).2.2; exact (by refine zl ?_; exact (Kd.R_mono (Kd.R_far (p := ⟨gb744, 1, none⟩) (Kd.R_far (p := ⟨gb744, 0, none⟩) (Kd.R_types HO740.out BK744.out (by decide)) (fun _ hk => hk.2) (.int .i64 t741)) (fun _ hk => hk.2) (.int .i64 t742)) (fun _ h_ => h_.1)))); (case side2 => exact (Kd.R_reads' HO740.out).2.1); rintro e w61 ⟨v747, rfl, ho0, hb⟩; refine ⟨_, rfl, ?_⟩; replace HO740 := Aside0.mk (Kd.R_below (by refine zl ?_; exact (Kd.R_mono (Kd.R_far (p := ⟨gb744, 1, none⟩) (Kd.R_far (p := ⟨gb744, 0, none⟩) (Kd.R_types HO740.out BK744.out (by decide)) (fun _ hk => hk.2) (.int .i64 t741)) (fun _ hk => hk.2) (.int .i64 t742)) (fun _ h_ => h_.1))) hb); replace HB := zd hb; (try clear hb); (try clear hk); (try clear ho0)) | ((with_reducible refine gC 42 rfl ?_); refine gL 29 Try.func42 #[.slice Ao56 t738.length co56] ?_; (with_reducible refine (agoniclaw05_sound.calls k _ _ t738 false _ ?side1 ?side2 A6.out).mono ?_); (case side1 => exact zc (Kd.R_reads' HO740.out).2.2); (case side2 => exact (Kd.R_reads' HO740.out).2.1); rintro e w62 ⟨rfl, hb⟩; refine ⟨_, rfl, ?_⟩; replace HB := zd hb; (try clear hb)) | (go_at_call 14; (with_reducible refine (agoniclaw05_works.calls  true _ A52.out).mono ?_); rintro e w63 ⟨rfl, hb⟩; replace HB := zd hb; (try clear hb)))
   go_ret
   exact ⟨ze, zh⟩
  ·rw [if_neg c51] at H
   have c51b0 : (t743 == 21) = false := beq_eq_false_iff_ne.mpr c51
   have c51b1 : (t743 != 21) = true := bne_iff_ne.mpr c51
   exact absurd (Option.some.inj H) (by decide)
end Go.Proofs.Ytccjefoejjnccaa.C
