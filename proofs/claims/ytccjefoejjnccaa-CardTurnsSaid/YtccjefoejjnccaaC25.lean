-- Written by a program of this session (wip/tools/myprint.py, over the kit's print).
import Derived.Test.YtccjefoejjnccaaC0
import Derived.Test.YtccjefoejjnccaaC19
import Derived.Test.YtccjefoejjnccaaC21
import Derived.Test.YtccjefoejjnccaaH12
import Derived.Test.YtccjefoejjnccaaH13
import Derived.Test.YtccjefoejjnccaaZ
namespace Go.Proofs.Ytccjefoejjnccaa.C
open Go.Proofs.Ytccjefoejjnccaa.H
open Go.RowKit Go.Proofs.YtccjefoejjnccaaW.PrintWords Go.Proofs.YtccjefoejjnccaaW.PrintLast Go.Proofs.YtccjefoejjnccaaW.PrintMore
attribute [local go_sem] max2_int min2_int max_two min_two max_three min_three max_four min_four   -- for this text's walks alone
set_option linter.unusedVariables false
set_option linter.unusedSimpArgs false
mutual
def agoniclaw05_CardTurns.l0 : Nat → List (S55) → Int → List (S55) → Int → Int → Option (Bool)
 | 0, _, _, _, _, _ => none
 | k + 1, x5, x6, x23, x24, x25 => if x25 < x24 then (if 0 ≤ x25 then (if x25 < (x23.length : Int) then (if (Int.tmod (wrap64 ((wrap64 (((rd_T55 x23 x25).f0) + ((rd_T55 x23 x25).f1))) - x6)) 3600) = 0 then ((agoniclaw05_works.f).bind fun t669 => (some t669)) else (agoniclaw05_CardTurns.l0 k x5 x6 x23 x24 (wrap64 (x25 + 1)))) else (none)) else (none)) else ((card_Courses.f k x5 x6).bind fun bt670 => (if bt670.2 = 0 then (agoniclaw05_CardTurns.l1 k x5 0 bt670.1 (bt670.1.length : Int) 0) else (some false)))
def agoniclaw05_CardTurns.l1 : Nat → List (S55) → Int → List (S29) → Int → Int → Option (Bool)
 | 0, _, _, _, _, _ => none
 | k + 1, x5, x11, x48, x49, x50 => if x50 < x49 then (if 0 ≤ x50 then (if x50 < (x48.length : Int) then ((agoniclaw05_fit.f ((rd_T29 x48 x50).f0) ((rd_T29 x48 x50).f1) 3600).bind fun t677 => (if t677 = true then ((agoniclaw05_course.f k x5 ((rd_T29 x48 x50).f0) ((rd_T29 x48 x50).f1)).bind fun bt678 => (if bt678.2.2 < 0 then (some false) else ((agoniclaw05_ends.f x5 bt678.2.2).bind fun bt682 => (if (wrap64 (bt682.2.2.1 + bt682.2.2.2)) > (wrap64 (bt682.1 + bt682.2.1)) then (agoniclaw05_CardTurns.l1 k x5 (wrap64 (x11 + 1)) x48 x49 (wrap64 (x50 + 1))) else (agoniclaw05_CardTurns.l1 k x5 (wrap64 (x11 - 1)) x48 x49 (wrap64 (x50 + 1))))))) else (some false))) else (none)) else (none)) else (if x11 = 1 then ((agoniclaw05_works.f).bind fun t674 => (some t674)) else (some false))
end
def agoniclaw05_CardTurns.f (k : Nat) (l0_0 : List (S81)) (a0_1 : Int) (a1 : Int) : Option (Bool) := (agoniclaw05_Rose_made.f k l0_0 a0_1).bind fun t664 => (agoniclaw05_CardTurns.l0 k t664 (Int.tmod (wrap64 (a1)) 3600) t664 (t664.length : Int) 0)
set_option maxHeartbeats 8000000 in
set_option maxRecDepth 100000 in
theorem agoniclaw05_CardTurns.calls (k : Nat) (A0_0 : Option Addr) (c0_0 : Nat) (l0_0 : List (S81)) (a0_1 : Int) (a1 : Int) (r_ : Bool) (w : World) (hr0_0 : Kd.C k81 w A0_0 l0_0.length l0_0) (hc0_0 : l0_0.length ≤ c0_0) (h : agoniclaw05_CardTurns.f k l0_0 a0_1 a1 = some true) :
  Calls Try.prog 8 #[.agg #[.slice A0_0 l0_0.length c0_0, .int .u8 a0_1], .int .u16 a1] w fun e w' => e = .returned (.bool true) ∧ Below w.heap.size w w' := by
 have hu72 := Try.underlying72
 have hu55 := Try.underlying55
 have hu29 := Try.underlying29
 have HR0_0 := Aside0.mk hr0_0
 have HC0_0 := Aside0.mk hc0_0
 clear hr0_0 hc0_0
 have HB := Aside0.mk (Below.refl w.heap.size w)
 have H : ((agoniclaw05_Rose_made.f k l0_0 a0_1).bind fun t664 => (agoniclaw05_CardTurns.l0 k t664 (Int.tmod (wrap64 (a1)) 3600) t664 (t664.length : Int) 0)) = some true := h
 clear h
 replace H := zi H
 obtain ⟨t664, A30, H⟩ := H
 try dsimp only at H
 have A3 := Aside0.mk A30
 clear A30
 have H' := Aside0.mk H
 clear H
 go_enter Try.func8, Try.ntmps8
 go_wp2_with (first | ((with_reducible refine gD 2 rfl ?_); refine zx 2 #[.slice A0_0 l0_0.length c0_0, .int .u8 a0_1] 72 ?_; intro gb663 hg w4 hbox hb; have BK663 := Aside0.mk (hbox); have GE663 := zG w hg; replace HB := zd hb; clear hb hbox hg; have hcz5_0 : w4.cell? ⟨gb663, 0, none⟩ = some (.slice A0_0 l0_0.length c0_0) := zy BK663 0; have hcz5_1 : w4.cell? ⟨gb663, 1, none⟩ = some (.int .u8 a0_1) := zy BK663 1; have hfz5_0 := blk_frozen BK663.out 0; have hfz5_1 := blk_frozen BK663.out 1) | ((with_reducible refine gC 37 rfl ?_); refine gL 19 Try.func37 #[.agg #[.slice A0_0 l0_0.length c0_0, .int .u8 a0_1]] ?_; (with_reducible refine (agoniclaw05_Rose_made.calls k _ _ l0_0 a0_1 t664 _ ?side1 ?side2 A3.out).mono ?_); (case side1 => exact zc (Kd.C_below HR0_0.out HB.out)); (case side2 => exact HC0_0.out); rintro e w6 ⟨v665, rfl, ho0, hb⟩; refine ⟨_, rfl, ?_⟩; have HO666 := Aside0.mk (Kd.R_lower ho0 (below_size zh)); replace BK663 := zk BK663 hb; replace HB := zd hb; (try clear hb); (try clear ho0); obtain ⟨Ao7, co7, eo7⟩ := Kd.R_slice HO666.out; subst eo7))
 go_loopg [25] k (fun kq v25 w' => ∃ (x25_1 : Int), v25 = .int .i64 x25_1 ∧ Aside0 (agoniclaw05_CardTurns.l0 kq t664 (Int.tmod (wrap64 (a1)) 3600) t664 (t664.length : Int) x25_1 = some true) ∧ Aside0 (kq ≤ k) ∧ Aside0 (Kd.R k55 55 w' w.heap.size (fun _ => True) (.slice Ao7 t664.length co7) t664) ∧ Aside0 (Kd.R k55 55 w' w.heap.size (fun _ => True) (.slice Ao7 t664.length co7) t664) ∧ Aside0 (w'.heap[gb663]? = some (.cells #[(.slice A0_0 l0_0.length c0_0), .int .u8 a0_1] 72 (0, 0))) ∧ Aside0 (Below w.heap.size w w'))
 case atStart => exact ⟨(0), (by first | rfl | (simp; done) | (simp [*]; done)), H', ⟨Nat.le_refl _⟩, ⟨by refine zl ?_; exact HO666.out⟩, ⟨by refine zl ?_; exact HO666.out⟩, ⟨by refine zm ?_; exact BK663.out⟩, ⟨zh⟩⟩
 case round =>
  clear H'
  try clear p2
  try clear c3
  try clear p6
  try clear hcz5_0
  try clear hcz5_1
  try clear hfz5_0
  try clear hfz5_1
  obtain ⟨x25_1, rfl, HA, HK1, HO_5, HO_23, BK663, HB⟩ := hrel
  cases gk with
  | zero => exact absurd HA.out (by simp [agoniclaw05_CardTurns.l0])
  | succ k1 =>
   have H := HA.out
   clear HA
   simp only [agoniclaw05_CardTurns.l0] at H
   by_cases c8 : x25_1 < (t664.length : Int)
   ·rw [if_pos c8] at H
    have c8b0 : decide (x25_1 < (t664.length : Int)) = true := decide_eq_true c8
    clear c8
    by_cases c9 : 0 ≤ x25_1
    ·rw [if_pos c9] at H
     have c9b0 : decide (0 ≤ x25_1) = true := decide_eq_true c9
     clear c9
     by_cases c10 : x25_1 < (t664.length : Int)
     ·rw [if_pos c10] at H
      have c10b0 : decide (x25_1 < (t664.length : Int)) = true := decide_eq_true c10
      clear c10
      by_cases c11 : (Int.tmod (wrap64 ((wrap64 (((rd_T55 t664 x25_1).f0) + ((rd_T55 t664 x25_1).f1))) - (Int.tmod (wrap64 (a1)) 3600))) 3600) = 0
      ·rw [if_pos c11] at H
       have c11b0 : ((Int.tmod (wrap64 ((wrap64 (((rd_T55 t664 x25_1).f0) + ((rd_T55 t664 x25_1).f1))) - (Int.tmod (wrap64 (a1)) 3600))) 3600) == 0) = true := beq_iff_eq.mpr c11
       have c11b1 : ((Int.tmod (wrap64 ((wrap64 (((rd_T55 t664 x25_1).f0) + ((rd_T55 t664 x25_1).f1))) - (Int.tmod (wrap64 (a1)) 3600))) 3600) != 0) = false := bne_eq_false_iff_eq.mpr c11
       clear c11
       replace H := zi H
       obtain ⟨t669, A120, H⟩ := H
       try dsimp only at H
       have A12 := Aside0.mk A120
       clear A120
       obtain rfl := Option.some.inj H
       have p667 : 0 ≤ (x25_1 : Int) := zp
       have q667 : x25_1 < (t664.length : Int) := zp
       obtain ⟨ad667, e667, hx667_0, hx667_1⟩ := at_T55 (Kd.R_reads' HO_23.out).2.2 x25_1 p667 q667
       cases e667
       replace p667 := eq_true p667
       replace q667 := eq_true q667
       go_wp2_with (first | ((with_reducible refine gD 8 rfl ?_); refine zx 8 #[.int .i64 0, .int .i64 0] 55 ?_; intro gb668 hg w13 hbox hb; have BK668 := Aside0.mk (hbox); have GE668 := zG w hg; replace HB := zd hb; have NB663_668 := zN BK663 hg; have NB668_663 := zM BK663 hg; clear hb hbox hg; have hnb14 := NB668_663.out; have hnc14 := NB663_668.out; have hcz15_0 : w13.cell? ⟨gb668, 0, none⟩ = some (.int .i64 0) := zy BK668 0; have hcz15_1 : w13.cell? ⟨gb668, 1, none⟩ = some (.int .i64 0) := zy BK668 1; have hfz15_0 := blk_frozen BK668.out 0; have hfz15_1 := blk_frozen BK668.out 1) | ((with_reducible refine gC 14 rfl ?_); refine gL 38 Try.func14 #[] ?_; (with_reducible refine (agoniclaw05_works.calls  true _ A12.out).mono ?_); rintro e w16 ⟨rfl, hb⟩; refine ⟨_, rfl, ?_⟩; replace HB := zd hb; (try clear hb); (try clear hk)))
       go_ret
       exact ⟨ze, zh⟩
      ·rw [if_neg c11] at H
       have c11b0 : ((Int.tmod (wrap64 ((wrap64 (((rd_T55 t664 x25_1).f0) + ((rd_T55 t664 x25_1).f1))) - (Int.tmod (wrap64 (a1)) 3600))) 3600) == 0) = false := beq_eq_false_iff_ne.mpr c11
       have c11b1 : ((Int.tmod (wrap64 ((wrap64 (((rd_T55 t664 x25_1).f0) + ((rd_T55 t664 x25_1).f1))) - (Int.tmod (wrap64 (a1)) 3600))) 3600) != 0) = true := bne_iff_ne.mpr c11
       have H' := Aside0.mk H
       clear H
       have p667 : 0 ≤ (x25_1 : Int) := zp
       have q667 : x25_1 < (t664.length : Int) := zp
       obtain ⟨ad667, e667, hx667_0, hx667_1⟩ := at_T55 (Kd.R_reads' HO_23.out).2.2 x25_1 p667 q667
       cases e667
       replace p667 := eq_true p667
       replace q667 := eq_true q667
       go_wp2_with (first | ((with_reducible refine gD 8 rfl ?_); refine zx 8 #[.int .i64 0, .int .i64 0] 55 ?_; intro gb668 hg w17 hbox hb; replace HO_5 := Aside0.mk (Kd.R_below (Kd.R_elderB (zo HO_5.out) gb668 (Nat.le_of_eq hg.symm)) hb); replace HO_23 := Aside0.mk (Kd.R_below (Kd.R_elderB (zo HO_23.out) gb668 (Nat.le_of_eq hg.symm)) hb); have BK668 := Aside0.mk (hbox); have GE668 := zG w hg; replace HB := zd hb; have NB663_668 := zN BK663 hg; have NB668_663 := zM BK663 hg; replace BK663 := zk BK663 hb; clear hb hbox hg; have hnb18 := NB668_663.out; have hnc18 := NB663_668.out; have hcz19_0 : w17.cell? ⟨gb668, 0, none⟩ = some (.int .i64 0) := zy BK668 0; have hcz19_1 : w17.cell? ⟨gb668, 1, none⟩ = some (.int .i64 0) := zy BK668 1; have hfz19_0 := blk_frozen BK668.out 0; have hfz19_1 := blk_frozen BK668.out 1))
       go_roundg k1
       case measure => have := HK1.out; omega
       case rel => exact ⟨(wrap64 (x25_1 + 1)), (by first | rfl | (simp; done) | (simp [*]; done)), H', ⟨by have := HK1.out; omega⟩, ⟨by refine zl ?_; exact Kd.R_mono (Kd.R_far (p := ⟨gb668, 1, none⟩) (Kd.R_far (p := ⟨gb668, 0, none⟩) (Kd.R_mono HO_5.out (fun k_ hk => (⟨hk, hk.2⟩ : _ ∧ k_ ≠ gb668))) (fun _ hk => hk.2) (.int .i64 ((rd_T55 t664 x25_1).f0))) (fun _ hk => hk.2) (.int .i64 ((rd_T55 t664 x25_1).f1))) (fun _ hk => trivial)⟩, ⟨by refine zl ?_; exact Kd.R_mono (Kd.R_far (p := ⟨gb668, 1, none⟩) (Kd.R_far (p := ⟨gb668, 0, none⟩) (Kd.R_mono HO_23.out (fun k_ hk => (⟨hk, hk.2⟩ : _ ∧ k_ ≠ gb668))) (fun _ hk => hk.2) (.int .i64 ((rd_T55 t664 x25_1).f0))) (fun _ hk => hk.2) (.int .i64 ((rd_T55 t664 x25_1).f1))) (fun _ hk => trivial)⟩, ⟨by refine zm ?_; refine blk_far ?_ NB663_668.out _; refine zm ?_; refine blk_far ?_ NB663_668.out _; refine zm ?_; exact BK663.out⟩, ⟨zh⟩⟩
     ·rw [if_neg c10] at H
      exact absurd H (by simp)
    ·rw [if_neg c9] at H
     exact absurd H (by simp)
   ·rw [if_neg c8] at H
    have c8b0 : decide (x25_1 < (t664.length : Int)) = false := decide_eq_false c8
    clear c8
    replace H := zi H
    obtain ⟨⟨t670, t671⟩, A200, H⟩ := H
    try dsimp only at H
    have A20 := Aside0.mk A200
    clear A200
    by_cases c21 : t671 = 0
    ·rw [if_pos c21] at H
     have c21b0 : (t671 == 0) = true := beq_iff_eq.mpr c21
     have c21b1 : (t671 != 0) = false := bne_eq_false_iff_eq.mpr c21
     clear c21
     have H' := Aside0.mk H
     clear H
     go_wp2_with (first | ((with_reducible refine gC 23 rfl ?_); refine gL 43 Try.func23 #[.slice Ao7 t664.length co7, .int .i64 (Int.tmod (wrap64 (a1)) 3600)] ?_; (with_reducible refine (card_Courses.calls k1 _ _ t664 (Int.tmod (wrap64 (a1)) 3600) t670 t671 _ ?side1 ?side2 A20.out).mono ?_); (case side1 => exact zc (Kd.R_reads' HO_5.out).2.2); (case side2 => exact (Kd.R_reads' HO_5.out).2.1); rintro e w22 ⟨v672, rfl, ho0, hb⟩; refine ⟨_, rfl, ?_⟩; replace HO_5 := zr HO_5 hb; have HO673 := Aside0.mk (Kd.R_lower ho0 (below_size zh)); replace BK663 := zk BK663 hb; replace HB := zd hb; (try clear hb); (try clear ho0); obtain ⟨Ao23, co23, eo23⟩ := Kd.R_slice HO673.out; subst eo23))
     go_loopg [11, 50] k1 (fun kq v11 v50 w' => ∃ (x11_2 : Int) (x50_2 : Int), v11 = .int .i64 x11_2 ∧ v50 = .int .i64 x50_2 ∧ Aside0 (agoniclaw05_CardTurns.l1 kq t664 x11_2 t670 (t670.length : Int) x50_2 = some true) ∧ Aside0 (kq ≤ k1) ∧ Aside0 (Kd.R k55 55 w' w.heap.size (fun _ => True) (.slice Ao7 t664.length co7) t664) ∧ Aside0 (Kd.R k29 29 w' w.heap.size (fun _ => True) (.slice Ao23 t670.length co23) t670) ∧ Aside0 (w'.heap[gb663]? = some (.cells #[(.slice A0_0 l0_0.length c0_0), .int .u8 a0_1] 72 (0, 0))) ∧ Aside0 (Below w.heap.size w w'))
     case atStart => exact ⟨(0), (0), (by first | rfl | (simp; done) | (simp [*]; done)), (by first | rfl | (simp; done) | (simp [*]; done)), H', ⟨Nat.le_refl _⟩, ⟨by refine zl ?_; exact HO_5.out⟩, ⟨by refine zl ?_; exact HO673.out⟩, ⟨by refine zm ?_; exact BK663.out⟩, ⟨zh⟩⟩
     case round =>
      clear H'
      try clear c1
      try clear c2
      try clear p2
      try clear c3
      try clear p6
      try clear q6
      try clear hx6
      try clear c8
      try clear c8b0
      try clear c9
      try clear c9b0
      try clear c10
      try clear c10b0
      try clear c11
      try clear c11b0
      try clear c11b1
      try clear c14
      try clear c18
      try clear c21
      try clear c21b0
      try clear c21b1
      try clear c23
      try clear hcz15_0
      try clear hcz15_1
      try clear hcz19_0
      try clear hcz19_1
      try clear hcz5_0
      try clear hcz5_1
      try clear hfz15_0
      try clear hfz15_1
      try clear hfz19_0
      try clear hfz19_1
      try clear hfz5_0
      try clear hfz5_1
      try clear hx667_0
      try clear hx667_1
      try clear p2
      try clear p6
      try clear p667
      try clear q667
      obtain ⟨x11_2, x50_2, rfl, rfl, HA, HK2, HO_5, HO_48, BK663, HB⟩ := hrel
      cases gk with
      | zero => exact absurd HA.out (by simp [agoniclaw05_CardTurns.l1])
      | succ k2 =>
       have H := HA.out
       clear HA
       simp only [agoniclaw05_CardTurns.l1] at H
       by_cases c24 : x50_2 < (t670.length : Int)
       ·rw [if_pos c24] at H
        have c24b0 : decide (x50_2 < (t670.length : Int)) = true := decide_eq_true c24
        clear c24
        by_cases c25 : 0 ≤ x50_2
        ·rw [if_pos c25] at H
         have c25b0 : decide (0 ≤ x50_2) = true := decide_eq_true c25
         clear c25
         by_cases c26 : x50_2 < (t670.length : Int)
         ·rw [if_pos c26] at H
          have c26b0 : decide (x50_2 < (t670.length : Int)) = true := decide_eq_true c26
          clear c26
          replace H := zi H
          obtain ⟨t677, A270, H⟩ := H
          try dsimp only at H
          have A27 := Aside0.mk A270
          clear A270
          by_cases c28 : t677 = true
          ·subst c28
           rw [if_pos rfl] at H
           replace H := zi H
           obtain ⟨⟨t678, t679, t680⟩, A290, H⟩ := H
           try dsimp only at H
           have A29 := Aside0.mk A290
           clear A290
           by_cases c30 : t680 < 0
           ·rw [if_pos c30] at H
            have c30b0 : decide (t680 < 0) = true := decide_eq_true c30
            clear c30
            exact absurd (Option.some.inj H) (by decide)
           ·rw [if_neg c30] at H
            have c30b0 : decide (t680 < 0) = false := decide_eq_false c30
            clear c30
            replace H := zi H
            obtain ⟨⟨t682, t683, t684, t685⟩, A410, H⟩ := H
            try dsimp only at H
            have A41 := Aside0.mk A410
            clear A410
            by_cases c42 : (wrap64 (t684 + t685)) > (wrap64 (t682 + t683))
            ·rw [if_pos c42] at H
             have c42b0 : decide ((wrap64 (t682 + t683)) < (wrap64 (t684 + t685))) = true := decide_eq_true c42
             clear c42
             have H' := Aside0.mk H
             clear H
             have p675 : 0 ≤ (x50_2 : Int) := zp
             have q675 : x50_2 < (t670.length : Int) := zp
             obtain ⟨ad675, e675, hx675_0, hx675_1⟩ := at_T29 (Kd.R_reads' HO_48.out).2.2 x50_2 p675 q675
             cases e675
             replace p675 := eq_true p675
             replace q675 := eq_true q675
             go_wp2_with (first | ((with_reducible refine gD 13 rfl ?_); refine zx 13 #[.int .i64 0, .int .i64 0] 29 ?_; intro gb676 hg w43 hbox hb; replace HO_5 := zr HO_5 hb; replace HO_48 := Aside0.mk (Kd.R_below (Kd.R_elderB (zo HO_48.out) gb676 (Nat.le_of_eq hg.symm)) hb); have BK676 := Aside0.mk (hbox); have GE676 := zG w hg; replace HB := zd hb; have NB663_676 := zN BK663 hg; have NB676_663 := zM BK663 hg; replace BK663 := zk BK663 hb; clear hb hbox hg; have hnb44 := NB676_663.out; have hnc44 := NB663_676.out; have hcz45_0 : w43.cell? ⟨gb676, 0, none⟩ = some (.int .i64 0) := zy BK676 0; have hcz45_1 : w43.cell? ⟨gb676, 1, none⟩ = some (.int .i64 0) := zy BK676 1; have hfz45_0 := blk_frozen BK676.out 0; have hfz45_1 := blk_frozen BK676.out 1) | ((with_reducible refine gC 39 rfl ?_); refine gL 55 Try.func39 #[.agg #[.int .i64 ((rd_T29 t670 x50_2).f0), .int .i64 ((rd_T29 t670 x50_2).f1)], .int .i64 3600] ?_; (with_reducible refine (agoniclaw05_fit.calls ((rd_T29 t670 x50_2).f0) ((rd_T29 t670 x50_2).f1) 3600 true _ A27.out).mono ?_); rintro e w46 ⟨rfl, hb⟩; refine ⟨_, rfl, ?_⟩; replace HO_5 := Aside0.mk (Kd.R_below (by refine zl ?_; exact (Kd.R_mono (Kd.R_far (p := ⟨gb676, 1, none⟩) (Kd.R_far (p := ⟨gb676, 0, none⟩) (Kd.R_types HO_5.out BK676.out (by decide)) (fun _ hk => hk.2) (.int .i64 ((rd_T29 t670 x50_2).f0))) (fun _ hk => hk.2) (.int .i64 ((rd_T29 t670 x50_2).f1))) (fun _ h_ => h_.1))) hb); replace HO_48 := Aside0.mk (Kd.R_below (by refine zl ?_; exact (Kd.R_mono (Kd.R_far (p := ⟨gb676, 1, none⟩) (Kd.R_far (p := ⟨gb676, 0, none⟩) (Kd.R_mono HO_48.out (fun k_ hk => (⟨hk, hk.2⟩ : _ ∧ k_ ≠ gb676))) (fun _ hk => hk.2) (.int .i64 ((rd_T29 t670 x50_2).f0))) (fun _ hk => hk.2) (.int .i64 ((rd_T29 t670 x50_2).f1))) (fun _ h_ => h_.1))) hb); replace BK663 := Aside0.mk (blk_below (g := gb663) (o := .cells #[.slice A0_0 l0_0.length c0_0, .int .u8 a0_1] 72 (0, 0)) (by refine zm ?_; refine blk_far ?_ NB663_676.out _; refine zm ?_; refine blk_far ?_ NB663_676.out _; refine zm ?_; exact BK663.out) hb); replace BK676 := Aside0.mk (blk_below (g := gb676) (o := .cells #[.int .i64 ((rd_T29 t670 x50_2).f0), .int .i64 ((rd_T29 t670 x50_2).f1)] 29 (0, 0)) (by refine zm ?_; refine blk_put (cs := #[.int .i64 ((rd_T29 t670 x50_2).f0), .int .i64 0]) ?_ 1 _ rfl; refine zm ?_; refine blk_put (cs := #[.int .i64 0, .int .i64 0]) ?_ 0 _ rfl; refine zm ?_; exact BK676.out) hb); replace HB := zd hb; (try clear hb); (try clear hk); have hcz47_0 : w46.cell? ⟨gb676, 0, none⟩ = some (.int .i64 ((rd_T29 t670 x50_2).f0)) := zy BK676 0; have hcz47_1 : w46.cell? ⟨gb676, 1, none⟩ = some (.int .i64 ((rd_T29 t670 x50_2).f1)) := zy BK676 1; have hfz47_0 := blk_frozen BK676.out 0; have hfz47_1 := blk_frozen BK676.out 1) | ((with_reducible refine gC 40 rfl ?_); refine gL 60 Try.func40 #[.slice Ao7 t664.length co7, .agg #[.int .i64 ((rd_T29 t670 x50_2).f0), .int .i64 ((rd_T29 t670 x50_2).f1)]] ?_; (with_reducible refine (agoniclaw05_course.calls k2 _ _ t664 ((rd_T29 t670 x50_2).f0) ((rd_T29 t670 x50_2).f1) t678 t679 t680 _ ?side1 ?side2 A29.out).mono ?_); (case side1 => exact zc (Kd.R_reads' HO_5.out).2.2); (case side2 => exact (Kd.R_reads' HO_5.out).2.1); rintro e w48 ⟨rfl, hb⟩; refine ⟨_, rfl, ?_⟩; replace HO_5 := zr HO_5 hb; replace HO_48 := zr HO_48 hb; replace BK663 := zk BK663 hb; replace BK676 := zk BK676 hb; replace HB := zd hb; (try clear hb)) | ((with_reducible refine gD 14 rfl ?_); refine zx 14 #[.int .i64 0, .int .i64 0] 29 ?_; intro gb681 hg w49 hbox hb; replace HO_5 := zr HO_5 hb; replace HO_48 := Aside0.mk (Kd.R_below (Kd.R_elderB (zo HO_48.out) gb681 (Nat.le_of_eq hg.symm)) hb); have BK681 := Aside0.mk (hbox); have GE681 := zG w hg; replace HB := zd hb; have NB663_681 := zN BK663 hg; have NB681_663 := zM BK663 hg; replace BK663 := zk BK663 hb; have NB676_681 := zN BK676 hg; have NB681_676 := zM BK676 hg; replace BK676 := zk BK676 hb; clear hb hbox hg; have hnb50 := NB681_663.out; have hnc50 := NB663_681.out; have hnb51 := NB681_676.out; have hnc51 := NB676_681.out; have hcz52_0 : w49.cell? ⟨gb681, 0, none⟩ = some (.int .i64 0) := zy BK681 0; have hcz52_1 : w49.cell? ⟨gb681, 1, none⟩ = some (.int .i64 0) := zy BK681 1; have hfz52_0 := blk_frozen BK681.out 0; have hfz52_1 := blk_frozen BK681.out 1) | ((with_reducible refine gC 38 rfl ?_); refine gL 68 Try.func38 #[.slice Ao7 t664.length co7, .int .i64 t680] ?_; (with_reducible refine (agoniclaw05_ends.calls _ _ t664 t680 t682 t683 t684 t685 _ ?side1 ?side2 A41.out).mono ?_); (case side1 => refine (Kd.R_reads' (e := 55) (base := w.heap.size) (ok := fun k_ => True) (n := t664.length) (c := co7) ?_).2.2; exact (by refine zl ?_; exact (Kd.R_mono (Kd.R_far (p := ⟨gb681, 1, none⟩) (Kd.R_far (p := ⟨gb681, 0, none⟩) (Kd.R_types HO_5.out BK681.out (by decide)) (fun _ hk => hk.2) (.int .i64 t678)) (fun _ hk => hk.2) (.int .i64 t679)) (fun _ h_ => h_.1)))); (case side2 => exact (Kd.R_reads' HO_5.out).2.1); rintro e w53 ⟨rfl, hb⟩; refine ⟨_, rfl, ?_⟩; replace HO_5 := Aside0.mk (Kd.R_below (by refine zl ?_; exact (Kd.R_mono (Kd.R_far (p := ⟨gb681, 1, none⟩) (Kd.R_far (p := ⟨gb681, 0, none⟩) (Kd.R_types HO_5.out BK681.out (by decide)) (fun _ hk => hk.2) (.int .i64 t678)) (fun _ hk => hk.2) (.int .i64 t679)) (fun _ h_ => h_.1))) hb); replace HO_48 := Aside0.mk (Kd.R_below (by refine zl ?_; exact (Kd.R_mono (Kd.R_far (p := ⟨gb681, 1, none⟩) (Kd.R_far (p := ⟨gb681, 0, none⟩) (Kd.R_mono HO_48.out (fun k_ hk => (⟨hk, hk.2⟩ : _ ∧ k_ ≠ gb681))) (fun _ hk => hk.2) (.int .i64 t678)) (fun _ hk => hk.2) (.int .i64 t679)) (fun _ h_ => h_.1))) hb); replace BK663 := Aside0.mk (blk_below (g := gb663) (o := .cells #[.slice A0_0 l0_0.length c0_0, .int .u8 a0_1] 72 (0, 0)) (by refine zm ?_; refine blk_far ?_ NB663_681.out _; refine zm ?_; refine blk_far ?_ NB663_681.out _; refine zm ?_; exact BK663.out) hb); replace BK676 := Aside0.mk (blk_below (g := gb676) (o := .cells #[.int .i64 ((rd_T29 t670 x50_2).f0), .int .i64 ((rd_T29 t670 x50_2).f1)] 29 (0, 0)) (by refine zm ?_; refine blk_far ?_ NB676_681.out _; refine zm ?_; refine blk_far ?_ NB676_681.out _; refine zm ?_; exact BK676.out) hb); replace BK681 := Aside0.mk (blk_below (g := gb681) (o := .cells #[.int .i64 t678, .int .i64 t679] 29 (0, 0)) (by refine zm ?_; refine blk_put (cs := #[.int .i64 t678, .int .i64 0]) ?_ 1 _ rfl; refine zm ?_; refine blk_put (cs := #[.int .i64 0, .int .i64 0]) ?_ 0 _ rfl; refine zm ?_; exact BK681.out) hb); replace HB := zd hb; (try clear hb); (try clear hk)) | ((with_reducible refine gD 16 rfl ?_); refine zx 16 #[.int .i64 0, .int .i64 0] 55 ?_; intro gb686 hg w54 hbox hb; replace HO_5 := Aside0.mk (Kd.R_below (Kd.R_elderB (zo HO_5.out) gb686 (Nat.le_of_eq hg.symm)) hb); replace HO_48 := zr HO_48 hb; have BK686 := Aside0.mk (hbox); have GE686 := zG w hg; replace HB := zd hb; have NB663_686 := zN BK663 hg; have NB686_663 := zM BK663 hg; replace BK663 := zk BK663 hb; have NB676_686 := zN BK676 hg; have NB686_676 := zM BK676 hg; replace BK676 := zk BK676 hb; have NB681_686 := zN BK681 hg; have NB686_681 := zM BK681 hg; replace BK681 := zk BK681 hb; clear hb hbox hg) | ((with_reducible refine gD 17 rfl ?_); refine zx 17 #[.int .i64 0, .int .i64 0] 55 ?_; intro gb687 hg w55 hbox hb; replace HO_5 := Aside0.mk (Kd.R_below (Kd.R_elderB (zo HO_5.out) gb687 (Nat.le_of_eq hg.symm)) hb); replace HO_48 := zr HO_48 hb; have BK687 := Aside0.mk (hbox); have GE687 := zG w hg; replace HB := zd hb; have NB663_687 := zN BK663 hg; have NB687_663 := zM BK663 hg; replace BK663 := zk BK663 hb; have NB676_687 := zN BK676 hg; have NB687_676 := zM BK676 hg; have NB681_687 := zN BK681 hg; have NB687_681 := zM BK681 hg; have NB686_687 := zN BK686 hg; have NB687_686 := zM BK686 hg; replace BK686 := zk BK686 hb; clear hb hbox hg; have hnb56 := NB686_663.out; have hnc56 := NB663_686.out; have hnb57 := NB686_676.out; have hnc57 := NB676_686.out; have hnb58 := NB686_681.out; have hnc58 := NB681_686.out; have hnb59 := NB686_687.out; have hnc59 := NB687_686.out; have hcz60_0 : w55.cell? ⟨gb686, 0, none⟩ = some (.int .i64 0) := zy BK686 0; have hcz60_1 : w55.cell? ⟨gb686, 1, none⟩ = some (.int .i64 0) := zy BK686 1; have hfz60_0 := blk_frozen BK686.out 0; have hfz60_1 := blk_frozen BK686.out 1; have hnb61 := NB687_663.out; have hnc61 := NB663_687.out; have hnb62 := NB687_676.out; have hnc62 := NB676_687.out; have hnb63 := NB687_681.out; have hnc63 := NB681_687.out; have hcz64_0 : w55.cell? ⟨gb687, 0, none⟩ = some (.int .i64 0) := zy BK687 0; have hcz64_1 : w55.cell? ⟨gb687, 1, none⟩ = some (.int .i64 0) := zy BK687 1; have hfz64_0 := blk_frozen BK687.out 0; have hfz64_1 := blk_frozen BK687.out 1))
             go_roundg k2
             case measure => have := HK1.out; have := HK2.out; omega
             case rel => exact ⟨(wrap64 (x11_2 + 1)), (wrap64 (x50_2 + 1)), (by first | rfl | (simp; done) | (simp [*]; done)), (by first | rfl | (simp; done) | (simp [*]; done)), H', ⟨by have := HK1.out; have := HK2.out; omega⟩, ⟨by refine zl ?_; exact Kd.R_mono (Kd.R_far (p := ⟨gb687, 1, none⟩) (Kd.R_far (p := ⟨gb687, 0, none⟩) (Kd.R_far (p := ⟨gb686, 1, none⟩) (Kd.R_far (p := ⟨gb686, 0, none⟩) (Kd.R_mono (Kd.R_mono HO_5.out (fun k_ hk => (⟨hk, hk.1.2⟩ : _ ∧ k_ ≠ gb686))) (fun k_ hk => (⟨hk, hk.1.2⟩ : _ ∧ k_ ≠ gb687))) (fun _ hk => hk.1.2) (.int .i64 t682)) (fun _ hk => hk.1.2) (.int .i64 t683)) (fun _ hk => hk.2) (.int .i64 t684)) (fun _ hk => hk.2) (.int .i64 t685)) (fun _ hk => trivial)⟩, ⟨by refine zl ?_; exact Kd.R_mono (Kd.R_far (p := ⟨gb687, 1, none⟩) (Kd.R_far (p := ⟨gb687, 0, none⟩) (Kd.R_far (p := ⟨gb686, 1, none⟩) (Kd.R_far (p := ⟨gb686, 0, none⟩) (Kd.R_types (Kd.R_types HO_48.out BK686.out (by decide)) BK687.out (by decide)) (fun _ hk => hk.1.2) (.int .i64 t682)) (fun _ hk => hk.1.2) (.int .i64 t683)) (fun _ hk => hk.2) (.int .i64 t684)) (fun _ hk => hk.2) (.int .i64 t685)) (fun _ hk => trivial)⟩, ⟨by refine zm ?_; refine blk_far ?_ NB663_687.out _; refine zm ?_; refine blk_far ?_ NB663_687.out _; refine zm ?_; refine blk_far ?_ NB663_686.out _; refine zm ?_; refine blk_far ?_ NB663_686.out _; refine zm ?_; exact BK663.out⟩, ⟨zh⟩⟩
            ·rw [if_neg c42] at H
             have c42b0 : decide ((wrap64 (t682 + t683)) < (wrap64 (t684 + t685))) = false := decide_eq_false c42
             clear c42
             have H' := Aside0.mk H
             clear H
             have p675 : 0 ≤ (x50_2 : Int) := zp
             have q675 : x50_2 < (t670.length : Int) := zp
             obtain ⟨ad675, e675, hx675_0, hx675_1⟩ := at_T29 (Kd.R_reads' HO_48.out).2.2 x50_2 p675 q675
             cases e675
             replace p675 := eq_true p675
             replace q675 := eq_true q675
             go_wp2_with (first | ((with_reducible refine gD 13 rfl ?_); refine zx 13 #[.int .i64 0, .int .i64 0] 29 ?_; intro gb676 hg w65 hbox hb; replace HO_5 := zr HO_5 hb; replace HO_48 := Aside0.mk (Kd.R_below (Kd.R_elderB (zo HO_48.out) gb676 (Nat.le_of_eq hg.symm)) hb); have BK676 := Aside0.mk (hbox); have GE676 := zG w hg; replace HB := zd hb; have NB663_676 := zN BK663 hg; have NB676_663 := zM BK663 hg; replace BK663 := zk BK663 hb; clear hb hbox hg; have hnb66 := NB676_663.out; have hnc66 := NB663_676.out; have hcz67_0 : w65.cell? ⟨gb676, 0, none⟩ = some (.int .i64 0) := zy BK676 0; have hcz67_1 : w65.cell? ⟨gb676, 1, none⟩ = some (.int .i64 0) := zy BK676 1; have hfz67_0 := blk_frozen BK676.out 0; have hfz67_1 := blk_frozen BK676.out 1) | ((with_reducible refine gC 39 rfl ?_); refine gL 55 Try.func39 #[.agg #[.int .i64 ((rd_T29 t670 x50_2).f0), .int .i64 ((rd_T29 t670 x50_2).f1)], .int .i64 3600] ?_; (with_reducible refine (agoniclaw05_fit.calls ((rd_T29 t670 x50_2).f0) ((rd_T29 t670 x50_2).f1) 3600 true _ A27.out).mono ?_); rintro e w68 ⟨rfl, hb⟩; refine ⟨_, rfl, ?_⟩; replace HO_5 := Aside0.mk (Kd.R_below (by refine zl ?_; exact (Kd.R_mono (Kd.R_far (p := ⟨gb676, 1, none⟩) (Kd.R_far (p := ⟨gb676, 0, none⟩) (Kd.R_types HO_5.out BK676.out (by decide)) (fun _ hk => hk.2) (.int .i64 ((rd_T29 t670 x50_2).f0))) (fun _ hk => hk.2) (.int .i64 ((rd_T29 t670 x50_2).f1))) (fun _ h_ => h_.1))) hb); replace HO_48 := Aside0.mk (Kd.R_below (by refine zl ?_; exact (Kd.R_mono (Kd.R_far (p := ⟨gb676, 1, none⟩) (Kd.R_far (p := ⟨gb676, 0, none⟩) (Kd.R_mono HO_48.out (fun k_ hk => (⟨hk, hk.2⟩ : _ ∧ k_ ≠ gb676))) (fun _ hk => hk.2) (.int .i64 ((rd_T29 t670 x50_2).f0))) (fun _ hk => hk.2) (.int .i64 ((rd_T29 t670 x50_2).f1))) (fun _ h_ => h_.1))) hb); replace BK663 := Aside0.mk (blk_below (g := gb663) (o := .cells #[.slice A0_0 l0_0.length c0_0, .int .u8 a0_1] 72 (0, 0)) (by refine zm ?_; refine blk_far ?_ NB663_676.out _; refine zm ?_; refine blk_far ?_ NB663_676.out _; refine zm ?_; exact BK663.out) hb); replace BK676 := Aside0.mk (blk_below (g := gb676) (o := .cells #[.int .i64 ((rd_T29 t670 x50_2).f0), .int .i64 ((rd_T29 t670 x50_2).f1)] 29 (0, 0)) (by refine zm ?_; refine blk_put (cs := #[.int .i64 ((rd_T29 t670 x50_2).f0), .int .i64 0]) ?_ 1 _ rfl; refine zm ?_; refine blk_put (cs := #[.int .i64 0, .int .i64 0]) ?_ 0 _ rfl; refine zm ?_; exact BK676.out) hb); replace HB := zd hb; (try clear hb); (try clear hk); have hcz69_0 : w68.cell? ⟨gb676, 0, none⟩ = some (.int .i64 ((rd_T29 t670 x50_2).f0)) := zy BK676 0; have hcz69_1 : w68.cell? ⟨gb676, 1, none⟩ = some (.int .i64 ((rd_T29 t670 x50_2).f1)) := zy BK676 1; have hfz69_0 := blk_frozen BK676.out 0; have hfz69_1 := blk_frozen BK676.out 1) | ((with_reducible refine gC 40 rfl ?_); refine gL 60 Try.func40 #[.slice Ao7 t664.length co7, .agg #[.int .i64 ((rd_T29 t670 x50_2).f0), .int .i64 ((rd_T29 t670 x50_2).f1)]] ?_; (with_reducible refine (agoniclaw05_course.calls k2 _ _ t664 ((rd_T29 t670 x50_2).f0) ((rd_T29 t670 x50_2).f1) t678 t679 t680 _ ?side1 ?side2 A29.out).mono ?_); (case side1 => exact zc (Kd.R_reads' HO_5.out).2.2); (case side2 => exact (Kd.R_reads' HO_5.out).2.1); rintro e w70 ⟨rfl, hb⟩; refine ⟨_, rfl, ?_⟩; replace HO_5 := zr HO_5 hb; replace HO_48 := zr HO_48 hb; replace BK663 := zk BK663 hb; replace BK676 := zk BK676 hb; replace HB := zd hb; (try clear hb)) | ((with_reducible refine gD 14 rfl ?_); refine zx 14 #[.int .i64 0, .int .i64 0] 29 ?_; intro gb681 hg w71 hbox hb; replace HO_5 := zr HO_5 hb; replace HO_48 := Aside0.mk (Kd.R_below (Kd.R_elderB (zo HO_48.out) gb681 (Nat.le_of_eq hg.symm)) hb); have BK681 := Aside0.mk (hbox); have GE681 := zG w hg; replace HB := zd hb; have NB663_681 := zN BK663 hg; have NB681_663 := zM BK663 hg; replace BK663 := zk BK663 hb; have NB676_681 := zN BK676 hg; have NB681_676 := zM BK676 hg; replace BK676 := zk BK676 hb; clear hb hbox hg; have hnb72 := NB681_663.out; have hnc72 := NB663_681.out; have hnb73 := NB681_676.out; have hnc73 := NB676_681.out; have hcz74_0 : w71.cell? ⟨gb681, 0, none⟩ = some (.int .i64 0) := zy BK681 0; have hcz74_1 : w71.cell? ⟨gb681, 1, none⟩ = some (.int .i64 0) := zy BK681 1; have hfz74_0 := blk_frozen BK681.out 0; have hfz74_1 := blk_frozen BK681.out 1) | ((with_reducible refine gC 38 rfl ?_); refine gL 68 Try.func38 #[.slice Ao7 t664.length co7, .int .i64 t680] ?_; (with_reducible refine (agoniclaw05_ends.calls _ _ t664 t680 t682 t683 t684 t685 _ ?side1 ?side2 A41.out).mono ?_); (case side1 => refine (Kd.R_reads' (e := 55) (base := w.heap.size) (ok := fun k_ => True) (n := t664.length) (c := co7) ?_).2.2; exact (by refine zl ?_; exact (Kd.R_mono (Kd.R_far (p := ⟨gb681, 1, none⟩) (Kd.R_far (p := ⟨gb681, 0, none⟩) (Kd.R_types HO_5.out BK681.out (by decide)) (fun _ hk => hk.2) (.int .i64 t678)) (fun _ hk => hk.2) (.int .i64 t679)) (fun _ h_ => h_.1)))); (case side2 => exact (Kd.R_reads' HO_5.out).2.1); rintro e w75 ⟨rfl, hb⟩; refine ⟨_, rfl, ?_⟩; replace HO_5 := Aside0.mk (Kd.R_below (by refine zl ?_; exact (Kd.R_mono (Kd.R_far (p := ⟨gb681, 1, none⟩) (Kd.R_far (p := ⟨gb681, 0, none⟩) (Kd.R_types HO_5.out BK681.out (by decide)) (fun _ hk => hk.2) (.int .i64 t678)) (fun _ hk => hk.2) (.int .i64 t679)) (fun _ h_ => h_.1))) hb); replace HO_48 := Aside0.mk (Kd.R_below (by refine zl ?_; exact (Kd.R_mono (Kd.R_far (p := ⟨gb681, 1, none⟩) (Kd.R_far (p := ⟨gb681, 0, none⟩) (Kd.R_mono HO_48.out (fun k_ hk => (⟨hk, hk.2⟩ : _ ∧ k_ ≠ gb681))) (fun _ hk => hk.2) (.int .i64 t678)) (fun _ hk => hk.2) (.int .i64 t679)) (fun _ h_ => h_.1))) hb); replace BK663 := Aside0.mk (blk_below (g := gb663) (o := .cells #[.slice A0_0 l0_0.length c0_0, .int .u8 a0_1] 72 (0, 0)) (by refine zm ?_; refine blk_far ?_ NB663_681.out _; refine zm ?_; refine blk_far ?_ NB663_681.out _; refine zm ?_; exact BK663.out) hb); replace BK676 := Aside0.mk (blk_below (g := gb676) (o := .cells #[.int .i64 ((rd_T29 t670 x50_2).f0), .int .i64 ((rd_T29 t670 x50_2).f1)] 29 (0, 0)) (by refine zm ?_; refine blk_far ?_ NB676_681.out _; refine zm ?_; refine blk_far ?_ NB676_681.out _; refine zm ?_; exact BK676.out) hb); replace BK681 := Aside0.mk (blk_below (g := gb681) (o := .cells #[.int .i64 t678, .int .i64 t679] 29 (0, 0)) (by refine zm ?_; refine blk_put (cs := #[.int .i64 t678, .int .i64 0]) ?_ 1 _ rfl; refine zm ?_; refine blk_put (cs := #[.int .i64 0, .int .i64 0]) ?_ 0 _ rfl; refine zm ?_; exact BK681.out) hb); replace HB := zd hb; (try clear hb); (try clear hk)) | ((with_reducible refine gD 16 rfl ?_); refine zx 16 #[.int .i64 0, .int .i64 0] 55 ?_; intro gb686 hg w76 hbox hb; replace HO_5 := Aside0.mk (Kd.R_below (Kd.R_elderB (zo HO_5.out) gb686 (Nat.le_of_eq hg.symm)) hb); replace HO_48 := zr HO_48 hb; have BK686 := Aside0.mk (hbox); have GE686 := zG w hg; replace HB := zd hb; have NB663_686 := zN BK663 hg; have NB686_663 := zM BK663 hg; replace BK663 := zk BK663 hb; have NB676_686 := zN BK676 hg; have NB686_676 := zM BK676 hg; replace BK676 := zk BK676 hb; have NB681_686 := zN BK681 hg; have NB686_681 := zM BK681 hg; replace BK681 := zk BK681 hb; clear hb hbox hg) | ((with_reducible refine gD 17 rfl ?_); refine zx 17 #[.int .i64 0, .int .i64 0] 55 ?_; intro gb687 hg w77 hbox hb; replace HO_5 := Aside0.mk (Kd.R_below (Kd.R_elderB (zo HO_5.out) gb687 (Nat.le_of_eq hg.symm)) hb); replace HO_48 := zr HO_48 hb; have BK687 := Aside0.mk (hbox); have GE687 := zG w hg; replace HB := zd hb; have NB663_687 := zN BK663 hg; have NB687_663 := zM BK663 hg; replace BK663 := zk BK663 hb; have NB676_687 := zN BK676 hg; have NB687_676 := zM BK676 hg; have NB681_687 := zN BK681 hg; have NB687_681 := zM BK681 hg; have NB686_687 := zN BK686 hg; have NB687_686 := zM BK686 hg; replace BK686 := zk BK686 hb; clear hb hbox hg; have hnb78 := NB686_663.out; have hnc78 := NB663_686.out; have hnb79 := NB686_676.out; have hnc79 := NB676_686.out; have hnb80 := NB686_681.out; have hnc80 := NB681_686.out; have hnb81 := NB686_687.out; have hnc81 := NB687_686.out; have hcz82_0 : w77.cell? ⟨gb686, 0, none⟩ = some (.int .i64 0) := zy BK686 0; have hcz82_1 : w77.cell? ⟨gb686, 1, none⟩ = some (.int .i64 0) := zy BK686 1; have hfz82_0 := blk_frozen BK686.out 0; have hfz82_1 := blk_frozen BK686.out 1; have hnb83 := NB687_663.out; have hnc83 := NB663_687.out; have hnb84 := NB687_676.out; have hnc84 := NB676_687.out; have hnb85 := NB687_681.out; have hnc85 := NB681_687.out; have hcz86_0 : w77.cell? ⟨gb687, 0, none⟩ = some (.int .i64 0) := zy BK687 0; have hcz86_1 : w77.cell? ⟨gb687, 1, none⟩ = some (.int .i64 0) := zy BK687 1; have hfz86_0 := blk_frozen BK687.out 0; have hfz86_1 := blk_frozen BK687.out 1))
             go_roundg k2
             case measure => have := HK1.out; have := HK2.out; omega
             case rel => exact ⟨(wrap64 (x11_2 - 1)), (wrap64 (x50_2 + 1)), (by first | rfl | (simp; done) | (simp [*]; done)), (by first | rfl | (simp; done) | (simp [*]; done)), H', ⟨by have := HK1.out; have := HK2.out; omega⟩, ⟨by refine zl ?_; exact Kd.R_mono (Kd.R_far (p := ⟨gb687, 1, none⟩) (Kd.R_far (p := ⟨gb687, 0, none⟩) (Kd.R_far (p := ⟨gb686, 1, none⟩) (Kd.R_far (p := ⟨gb686, 0, none⟩) (Kd.R_mono (Kd.R_mono HO_5.out (fun k_ hk => (⟨hk, hk.1.2⟩ : _ ∧ k_ ≠ gb686))) (fun k_ hk => (⟨hk, hk.1.2⟩ : _ ∧ k_ ≠ gb687))) (fun _ hk => hk.1.2) (.int .i64 t682)) (fun _ hk => hk.1.2) (.int .i64 t683)) (fun _ hk => hk.2) (.int .i64 t684)) (fun _ hk => hk.2) (.int .i64 t685)) (fun _ hk => trivial)⟩, ⟨by refine zl ?_; exact Kd.R_mono (Kd.R_far (p := ⟨gb687, 1, none⟩) (Kd.R_far (p := ⟨gb687, 0, none⟩) (Kd.R_far (p := ⟨gb686, 1, none⟩) (Kd.R_far (p := ⟨gb686, 0, none⟩) (Kd.R_types (Kd.R_types HO_48.out BK686.out (by decide)) BK687.out (by decide)) (fun _ hk => hk.1.2) (.int .i64 t682)) (fun _ hk => hk.1.2) (.int .i64 t683)) (fun _ hk => hk.2) (.int .i64 t684)) (fun _ hk => hk.2) (.int .i64 t685)) (fun _ hk => trivial)⟩, ⟨by refine zm ?_; refine blk_far ?_ NB663_687.out _; refine zm ?_; refine blk_far ?_ NB663_687.out _; refine zm ?_; refine blk_far ?_ NB663_686.out _; refine zm ?_; refine blk_far ?_ NB663_686.out _; refine zm ?_; exact BK663.out⟩, ⟨zh⟩⟩
          ·replace c28 := Bool.eq_false_iff.mpr c28
           subst c28
           rw [if_neg (show ¬ (false = true) by decide)] at H
           exact absurd (Option.some.inj H) (by decide)
         ·rw [if_neg c26] at H
          exact absurd H (by simp)
        ·rw [if_neg c25] at H
         exact absurd H (by simp)
       ·rw [if_neg c24] at H
        have c24b0 : decide (x50_2 < (t670.length : Int)) = false := decide_eq_false c24
        clear c24
        by_cases c91 : x11_2 = 1
        ·rw [if_pos c91] at H
         have c91b0 : (x11_2 == 1) = true := beq_iff_eq.mpr c91
         have c91b1 : (x11_2 != 1) = false := bne_eq_false_iff_eq.mpr c91
         clear c91
         replace H := zi H
         obtain ⟨t674, A920, H⟩ := H
         try dsimp only at H
         have A92 := Aside0.mk A920
         clear A920
         obtain rfl := Option.some.inj H
         go_wp2_with (first | (go_at_call 14; (with_reducible refine (agoniclaw05_works.calls  true _ A92.out).mono ?_); rintro e w93 ⟨rfl, hb⟩; replace HB := zd hb; (try clear hb)))
         go_ret
         exact ⟨ze, zh⟩
        ·rw [if_neg c91] at H
         have c91b0 : (x11_2 == 1) = false := beq_eq_false_iff_ne.mpr c91
         have c91b1 : (x11_2 != 1) = true := bne_iff_ne.mpr c91
         exact absurd (Option.some.inj H) (by decide)
    ·rw [if_neg c21] at H
     have c21b0 : (t671 == 0) = false := beq_eq_false_iff_ne.mpr c21
     have c21b1 : (t671 != 0) = true := bne_iff_ne.mpr c21
     exact absurd (Option.some.inj H) (by decide)
-- NOT PRINTED: function 9 (agoniclaw05_CardBack)
end Go.Proofs.Ytccjefoejjnccaa.C
