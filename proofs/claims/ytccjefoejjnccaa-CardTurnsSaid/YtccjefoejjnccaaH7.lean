-- Written by a program of this session (wip/tools/myprint.py, over the kit's print).
import Derived.Test.YtccjefoejjnccaaH5
import Derived.Test.YtccjefoejjnccaaZ
namespace Go.Proofs.Ytccjefoejjnccaa.C
open Go.Proofs.Ytccjefoejjnccaa.H Go.Proofs.YtccjefoejjnccaaH Go.RowKit Go.Proofs.YtccjefoejjnccaaW.PrintWords Go.Proofs.YtccjefoejjnccaaW.PrintLast Go.Proofs.YtccjefoejjnccaaW.PrintMore
attribute [local go_sem] max2_int min2_int max_two min_two max_three min_three max_four min_four   -- for this text's walks alone
set_option linter.unusedVariables false
set_option linter.unusedSimpArgs false
mutual
def card_Follow.l0 : Nat → List (List (S55)) → Int → List (List (S55)) → Int → Int → Option (Int × Int × Int)
 | 0, _, _, _, _, _ => none
 | k + 1, x0, x1, x25, x26, x27 => if x27 < x26 then (if 0 ≤ x27 then (if x27 < (x25.length : Int) then ((card_Check.f k (rd_L11 x25 x27)).bind fun t133 => (if t133 = 0 then (card_Follow.l0 k x0 x1 x25 x26 (wrap64 (x27 + 1))) else (some (0, 0, t133)))) else (none)) else (none)) else ((card_heading.f x1).bind fun t134 => (if t134 = true then ((card_whole.f x1).bind fun bt135 => (card_Follow.l1 k ([] : List (S101)) x0 (x0.length : Int) 0 bt135.1 bt135.2)) else (some (0, 0, 1))))
def card_Follow.l1 : Nat → List (S101) → List (List (S55)) → Int → Int → Int → Int → Option (Int × Int × Int)
 | 0, _, _, _, _, _, _ => none
 | k + 1, x10, x44, x45, x46, x138000, x138001 => if x46 < x45 then (if 0 ≤ x46 then (if x46 < (x44.length : Int) then ((card_Card_deviation.f k (rd_L11 x44 x46) x138000 x138001).bind fun bt139 => (if x10.length < 8796093022208 then ((card_ratio_plus.f k x138000 x138001 (([(⟨bt139.1, bt139.2⟩ : S101)] : List (S101)))).bind fun bt148 => ((card_ratio_around.f bt148.1 bt148.2).bind fun bt150 => (card_Follow.l1 k (x10 ++ [(⟨bt139.1, bt139.2⟩ : S101)]) x44 x45 (wrap64 (x46 + 1)) bt150.1 bt150.2))) else (none))) else (none)) else (none)) else ((card_whole.f 0).bind fun bt152 => ((card_ratio_plus.f k bt152.1 bt152.2 x10).bind fun bt154 => ((card_ratio_out.f bt154.1 bt154.2).bind fun bt156 => (some (bt156.1, bt156.2, 0)))))
end
def card_Follow.f (k : Nat) (l0 : List (List (S55))) (a1 : Int) : Option (Int × Int × Int) := if (l0.length : Int) = 0 then (some (0, 0, 2)) else (if (l0.length : Int) > 3 then (some (0, 0, 3)) else (card_Follow.l0 k l0 a1 l0 (l0.length : Int) 0))
set_option maxHeartbeats 8000000 in
set_option maxRecDepth 100000 in
theorem card_Follow.calls (k : Nat) (A0 : Option Addr) (c0 : Nat) (l0 : List (List (S55))) (a1 : Int) (r1 : Int) (r2 : Int) (r3 : Int) (w : World) (hr0 : Kd.C (Kd.slice 55 k55) w A0 l0.length l0) (hc0 : l0.length ≤ c0) (h : card_Follow.f k l0 a1 = some (r1, r2, r3)) :
  Calls Try.prog 30 #[.slice A0 l0.length c0, .int .i64 a1] w fun e w' => e = .returned (.tuple #[.agg #[.int .i64 r1, .int .i64 r2], .int .i64 r3]) ∧ Below w.heap.size w w' := by
 have hu29 := Try.underlying29
 have hu101 := Try.underlying101
 have HR0 := Aside0.mk hr0
 have HC0 := Aside0.mk hc0
 clear hr0 hc0
 have HB := Aside0.mk (Below.refl w.heap.size w)
 have H : (if (l0.length : Int) = 0 then (some (0, 0, 2)) else (if (l0.length : Int) > 3 then (some (0, 0, 3)) else (card_Follow.l0 k l0 a1 l0 (l0.length : Int) 0))) = some (r1, r2, r3) := h
 clear h
 by_cases c3 : (l0.length : Int) = 0
 ·rw [if_pos c3] at H
  have c3b0 : ((l0.length : Int) == 0) = true := beq_iff_eq.mpr c3
  have c3b1 : ((l0.length : Int) != 0) = false := bne_eq_false_iff_eq.mpr c3
  clear c3
  simp only [Option.some.injEq, Prod.mk.injEq] at H
  obtain ⟨rfl, rfl, rfl⟩ := H
  go_enter Try.func30, Try.ntmps30
  go_wp2_with (first | ((with_reducible refine gD 4 rfl ?_); refine zx 4 #[.int .i64 0, .int .i64 0] 29 ?_; intro gb131 hg w4 hbox hb; have BK131 := Aside0.mk (hbox); have GE131 := zG w hg; replace HB := zd hb; clear hb hbox hg; have hcz5_0 : w4.cell? ⟨gb131, 0, none⟩ = some (.int .i64 0) := zy BK131 0; have hcz5_1 : w4.cell? ⟨gb131, 1, none⟩ = some (.int .i64 0) := zy BK131 1; have hfz5_0 := blk_frozen BK131.out 0; have hfz5_1 := blk_frozen BK131.out 1))
  refine bodyPost_ret (results_ct rfl _ _ gb131 29 #[.int .i64 0, .int .i64 0] (0, 0) _ rfl (by refine zm ?_; refine blk_put (cs := #[.int .i64 0, .int .i64 0]) ?_ 1 _ rfl; refine zm ?_; refine blk_put (cs := #[.int .i64 0, .int .i64 0]) ?_ 0 _ rfl; refine zm ?_; exact BK131.out) Try.underlying29 rfl (by kernel_rfl)) rfl ?_
  exact ⟨ze, zh⟩
 ·rw [if_neg c3] at H
  have c3b0 : ((l0.length : Int) == 0) = false := beq_eq_false_iff_ne.mpr c3
  have c3b1 : ((l0.length : Int) != 0) = true := bne_iff_ne.mpr c3
  have c3b2 : ¬ (l0 = []) := fun h_ => c3 (by rw [h_]; rfl)
  by_cases c6 : (l0.length : Int) > 3
  ·rw [if_pos c6] at H
   have c6b0 : decide (3 < (l0.length : Int)) = true := decide_eq_true c6
   have c6b1 : decide (3 < l0.length) = true := decide_eq_true (by omega)
   clear c6
   simp only [Option.some.injEq, Prod.mk.injEq] at H
   obtain ⟨rfl, rfl, rfl⟩ := H
   go_enter Try.func30, Try.ntmps30
   go_wp2_with (first | ((with_reducible refine gD 4 rfl ?_); refine zx 4 #[.int .i64 0, .int .i64 0] 29 ?_; intro gb131 hg w7 hbox hb; have BK131 := Aside0.mk (hbox); have GE131 := zG w hg; replace HB := zd hb; clear hb hbox hg; have hcz8_0 : w7.cell? ⟨gb131, 0, none⟩ = some (.int .i64 0) := zy BK131 0; have hcz8_1 : w7.cell? ⟨gb131, 1, none⟩ = some (.int .i64 0) := zy BK131 1; have hfz8_0 := blk_frozen BK131.out 0; have hfz8_1 := blk_frozen BK131.out 1))
   refine bodyPost_ret (results_ct rfl _ _ gb131 29 #[.int .i64 0, .int .i64 0] (0, 0) _ rfl (by refine zm ?_; refine blk_put (cs := #[.int .i64 0, .int .i64 0]) ?_ 1 _ rfl; refine zm ?_; refine blk_put (cs := #[.int .i64 0, .int .i64 0]) ?_ 0 _ rfl; refine zm ?_; exact BK131.out) Try.underlying29 rfl (by kernel_rfl)) rfl ?_
   exact ⟨ze, zh⟩
  ·rw [if_neg c6] at H
   have c6b0 : decide (3 < (l0.length : Int)) = false := decide_eq_false c6
   have c6b1 : decide (3 < l0.length) = false := decide_eq_false (by omega)
   clear c6
   have H' := Aside0.mk H
   clear H
   go_enter Try.func30, Try.ntmps30
   go_wp2_with (first | ((with_reducible refine gD 4 rfl ?_); refine zx 4 #[.int .i64 0, .int .i64 0] 29 ?_; intro gb131 hg w9 hbox hb; have BK131 := Aside0.mk (hbox); have GE131 := zG w hg; replace HB := zd hb; clear hb hbox hg))
   go_loopg [27] k (fun kq v27 w' => ∃ (x27_1 : Int) (x132000_1 : Int) (x132001_1 : Int), v27 = .int .i64 x27_1 ∧ Aside0 (card_Follow.l0 kq l0 a1 l0 (l0.length : Int) x27_1 = some (r1, r2, r3)) ∧ Aside0 (kq ≤ k) ∧ Aside0 (w'.heap[gb131]? = some (.cells #[.int .i64 x132000_1, .int .i64 x132001_1] 29 (0, 0))) ∧ Aside0 (Below w.heap.size w w'))
   case atStart => exact ⟨(0), (0), (0), (by first | rfl | (simp; done) | (simp [*]; done)), H', ⟨Nat.le_refl _⟩, ⟨by refine zm ?_; exact BK131.out⟩, ⟨zh⟩⟩
   case round =>
    clear H'
    try clear p2
    try clear c3
    try clear c3b0
    try clear c3b1
    try clear c3b2
    try clear c6
    try clear c6b0
    try clear c6b1
    try clear hcz5_0
    try clear hcz5_1
    try clear hcz8_0
    try clear hcz8_1
    try clear hfz5_0
    try clear hfz5_1
    try clear hfz8_0
    try clear hfz8_1
    obtain ⟨x27_1, x132000_1, x132001_1, rfl, HA, HK1, BK131, HB⟩ := hrel
    cases gk with
    | zero => exact absurd HA.out (by simp [card_Follow.l0])
    | succ k1 =>
     have H := HA.out
     clear HA
     simp only [card_Follow.l0] at H
     by_cases c10 : x27_1 < (l0.length : Int)
     ·rw [if_pos c10] at H
      have c10b0 : decide (x27_1 < (l0.length : Int)) = true := decide_eq_true c10
      clear c10
      by_cases c11 : 0 ≤ x27_1
      ·rw [if_pos c11] at H
       have c11b0 : decide (0 ≤ x27_1) = true := decide_eq_true c11
       clear c11
       by_cases c12 : x27_1 < (l0.length : Int)
       ·rw [if_pos c12] at H
        have c12b0 : decide (x27_1 < (l0.length : Int)) = true := decide_eq_true c12
        clear c12
        replace H := zi H
        obtain ⟨t133, A130, H⟩ := H
        try dsimp only at H
        have A13 := Aside0.mk A130
        clear A130
        by_cases c14 : t133 = 0
        ·rw [if_pos c14] at H
         have c14b0 : (t133 == 0) = true := beq_iff_eq.mpr c14
         have c14b1 : (t133 != 0) = false := bne_eq_false_iff_eq.mpr c14
         clear c14
         have H' := Aside0.mk H
         clear H
         have p132 : 0 ≤ (x27_1 : Int) := zp
         have q132 : x27_1 < (l0.length : Int) := zp
         obtain ⟨ad132, A132_0, c132_0, e132, hx132_0, hl132_0, hi132_0⟩ := at_L11 HR0.out x27_1 p132 q132
         cases e132
         replace hx132_0 := (HB.out.cell (World.block_lt_of_cell? w _ hx132_0)).trans hx132_0
         have HR132_0 := Aside0.mk hi132_0
         have HC132_0 := Aside0.mk hl132_0
         clear hi132_0 hl132_0
         replace p132 := eq_true p132
         replace q132 := eq_true q132
         go_wp2_with (first | ((with_reducible refine gC 21 rfl ?_); refine gL 32 Try.func21 #[.slice A132_0 (rd_L11 l0 x27_1).length c132_0] ?_; (with_reducible refine (card_Check.calls k1 _ _ (rd_L11 l0 x27_1) t133 _ ?side1 ?side2 A13.out).mono ?_); (case side1 => exact zc (Kd.C_below HR132_0.out HB.out)); (case side2 => exact HC132_0.out); rintro e w15 ⟨rfl, hb⟩; refine ⟨_, rfl, ?_⟩; replace BK131 := zk BK131 hb; replace HB := zd hb; (try clear hb)))
         go_roundg k1
         case measure => have := HK1.out; omega
         case rel => exact ⟨(wrap64 (x27_1 + 1)), (x132000_1), (x132001_1), (by first | rfl | (simp; done) | (simp [*]; done)), H', ⟨by have := HK1.out; omega⟩, ⟨by refine zm ?_; exact BK131.out⟩, ⟨zh⟩⟩
        ·rw [if_neg c14] at H
         have c14b0 : (t133 == 0) = false := beq_eq_false_iff_ne.mpr c14
         have c14b1 : (t133 != 0) = true := bne_iff_ne.mpr c14
         simp only [Option.some.injEq, Prod.mk.injEq] at H
         obtain ⟨rfl, rfl, rfl⟩ := H
         have p132 : 0 ≤ (x27_1 : Int) := zp
         have q132 : x27_1 < (l0.length : Int) := zp
         obtain ⟨ad132, A132_0, c132_0, e132, hx132_0, hl132_0, hi132_0⟩ := at_L11 HR0.out x27_1 p132 q132
         cases e132
         replace hx132_0 := (HB.out.cell (World.block_lt_of_cell? w _ hx132_0)).trans hx132_0
         have HR132_0 := Aside0.mk hi132_0
         have HC132_0 := Aside0.mk hl132_0
         clear hi132_0 hl132_0
         replace p132 := eq_true p132
         replace q132 := eq_true q132
         go_wp2_with (first | ((with_reducible refine gC 21 rfl ?_); refine gL 32 Try.func21 #[.slice A132_0 (rd_L11 l0 x27_1).length c132_0] ?_; (with_reducible refine (card_Check.calls k1 _ _ (rd_L11 l0 x27_1) t133 _ ?side1 ?side2 A13.out).mono ?_); (case side1 => exact zc (Kd.C_below HR132_0.out HB.out)); (case side2 => exact HC132_0.out); rintro e w16 ⟨rfl, hb⟩; refine ⟨_, rfl, ?_⟩; replace BK131 := zk BK131 hb; replace HB := zd hb; (try clear hb); have hcz17_0 : w16.cell? ⟨gb131, 0, none⟩ = some (.int .i64 x132000_1) := zy BK131 0; have hcz17_1 : w16.cell? ⟨gb131, 1, none⟩ = some (.int .i64 x132001_1) := zy BK131 1; have hfz17_0 := blk_frozen BK131.out 0; have hfz17_1 := blk_frozen BK131.out 1))
         refine bodyPost_ret (results_ct rfl _ _ gb131 29 #[.int .i64 0, .int .i64 0] (0, 0) _ rfl (by refine zm ?_; refine blk_put (cs := #[.int .i64 0, .int .i64 x132001_1]) ?_ 1 _ rfl; refine zm ?_; refine blk_put (cs := #[.int .i64 x132000_1, .int .i64 x132001_1]) ?_ 0 _ rfl; refine zm ?_; exact BK131.out) Try.underlying29 rfl (by kernel_rfl)) rfl ?_
         exact ⟨ze, zh⟩
       ·rw [if_neg c12] at H
        exact absurd H (by simp)
      ·rw [if_neg c11] at H
       exact absurd H (by simp)
     ·rw [if_neg c10] at H
      have c10b0 : decide (x27_1 < (l0.length : Int)) = false := decide_eq_false c10
      clear c10
      replace H := zi H
      obtain ⟨t134, A180, H⟩ := H
      try dsimp only at H
      have A18 := Aside0.mk A180
      clear A180
      by_cases c19 : t134 = true
      ·subst c19
       rw [if_pos rfl] at H
       replace H := zi H
       obtain ⟨⟨t135, t136⟩, A200, H⟩ := H
       try dsimp only at H
       have A20 := Aside0.mk A200
       clear A200
       have H' := Aside0.mk H
       clear H
       go_wp2_with (first | ((with_reducible refine gC 52 rfl ?_); refine gL 39 Try.func52 #[.int .i64 a1] ?_; (with_reducible refine (card_heading.calls a1 true _ A18.out).mono ?_); rintro e w' ⟨rfl, ⟨nd, rfl⟩⟩; refine ⟨_, rfl, ?_⟩; (try (rw [drewN_self wr]; generalize hq_ : World.drewN wr _ = wr; have n0_ : Aside0 (wr.heap[gb131]? = some (.cells #[.int .i64 x132000_1, .int .i64 x132001_1] 29 (0, 0))) := ⟨by rw [← hq_]; exact (zb BK131)⟩; have n1_ : Aside0 (Below w.heap.size w wr) := ⟨by rw [← hq_]; exact zh⟩; clear BK131 HB hq_; have BK131 := n0_; have HB := n1_; clear n0_ n1_))) | ((with_reducible refine gC 54 rfl ?_); refine gL 43 Try.func54 #[.int .i64 a1] ?_; (with_reducible refine (card_whole.calls a1 t135 t136 _ A20.out).mono ?_); rintro e w21 ⟨rfl, hb⟩; refine ⟨_, rfl, ?_⟩; replace BK131 := zk BK131 hb; replace HB := zd hb; (try clear hb)) | ((with_reducible refine gD 9 rfl ?_); refine zx 9 #[.int .i64 0, .int .i64 0] 101 ?_; intro gb137 hg w22 hbox hb; have BK137 := Aside0.mk (hbox); have GE137 := zG w hg; replace HB := zd hb; have NB131_137 := zN BK131 hg; have NB137_131 := zM BK131 hg; replace BK131 := zk BK131 hb; clear hb hbox hg; have hnb23 := NB137_131.out; have hnc23 := NB131_137.out; have hcz24_0 : w22.cell? ⟨gb137, 0, none⟩ = some (.int .i64 0) := zy BK137 0; have hcz24_1 : w22.cell? ⟨gb137, 1, none⟩ = some (.int .i64 0) := zy BK137 1; have hfz24_0 := blk_frozen BK137.out 0; have hfz24_1 := blk_frozen BK137.out 1))
       go_loopg [10, 46] k1 (fun kq v10 v46 w' => ∃ (x10_2 : List (S101)) (x46_2 : Int) (x138000_2 : Int) (x138001_2 : Int), v46 = .int .i64 x46_2 ∧ Aside0 (card_Follow.l1 kq x10_2 l0 (l0.length : Int) x46_2 x138000_2 x138001_2 = some (r1, r2, r3)) ∧ Aside0 (kq ≤ k1) ∧ Aside0 (Kd.R k101 101 w' w.heap.size (fun k_ => k_ ≠ gb137) v10 x10_2) ∧ Aside0 (w'.heap[gb131]? = some (.cells #[.int .i64 x132000_1, .int .i64 x132001_1] 29 (0, 0))) ∧ Aside0 (w'.heap[gb137]? = some (.cells #[.int .i64 x138000_2, .int .i64 x138001_2] 101 (0, 0))) ∧ Aside0 (Below w.heap.size w w'))
       case atStart => exact ⟨(([] : List (S101))), (0), (t135), (t136), (by first | rfl | (simp; done) | (simp [*]; done)), H', ⟨Nat.le_refl _⟩, ⟨by first | exact Kd.R_nil _ _ _ _ _ | exact Kd.N_nil _ _ _ _ _ | exact Kd.V_nil _ _ _ _ _ | exact Kd.Q_nil _ _ _ _ _ | exact Kd.S_nil _ _ _ _ _⟩, ⟨by refine zm ?_; refine blk_far ?_ NB131_137.out _; refine zm ?_; refine blk_far ?_ NB131_137.out _; refine zm ?_; exact BK131.out⟩, ⟨by refine zm ?_; refine blk_put (cs := #[.int .i64 t135, .int .i64 0]) ?_ 1 _ rfl; refine zm ?_; refine blk_put (cs := #[.int .i64 0, .int .i64 0]) ?_ 0 _ rfl; refine zm ?_; exact BK137.out⟩, ⟨zh⟩⟩
       case round =>
        clear H'
        try clear c1
        try clear p1
        try clear q1
        try clear hx1
        try clear c2
        try clear p2
        try clear c3
        try clear c3b0
        try clear c3b1
        try clear c3b2
        try clear c5
        try clear c6
        try clear c6b0
        try clear c6b1
        try clear p6
        try clear c10
        try clear c10b0
        try clear c11
        try clear c11b0
        try clear c12
        try clear c12b0
        try clear c13
        try clear p13
        try clear q13
        try clear hx13
        try clear c14
        try clear c14b0
        try clear c14b1
        try clear c19
        try clear c21
        try clear c23
        try clear hcz17_0
        try clear hcz17_1
        try clear hcz24_0
        try clear hcz24_1
        try clear hcz5_0
        try clear hcz5_1
        try clear hcz8_0
        try clear hcz8_1
        try clear hfz17_0
        try clear hfz17_1
        try clear hfz24_0
        try clear hfz24_1
        try clear hfz5_0
        try clear hfz5_1
        try clear hfz8_0
        try clear hfz8_1
        try clear hx132_0
        try clear p132
        try clear p2
        try clear q132
        obtain ⟨x10_2, x46_2, x138000_2, x138001_2, rfl, HA, HK2, HO_10, BK131, BK137, HB⟩ := hrel
        cases gk with
        | zero => exact absurd HA.out (by simp [card_Follow.l1])
        | succ k2 =>
         have H := HA.out
         clear HA
         simp only [card_Follow.l1] at H
         by_cases c25 : x46_2 < (l0.length : Int)
         ·rw [if_pos c25] at H
          have c25b0 : decide (x46_2 < (l0.length : Int)) = true := decide_eq_true c25
          clear c25
          by_cases c26 : 0 ≤ x46_2
          ·rw [if_pos c26] at H
           have c26b0 : decide (0 ≤ x46_2) = true := decide_eq_true c26
           clear c26
           by_cases c27 : x46_2 < (l0.length : Int)
           ·rw [if_pos c27] at H
            have c27b0 : decide (x46_2 < (l0.length : Int)) = true := decide_eq_true c27
            clear c27
            replace H := zi H
            obtain ⟨⟨t139, t140⟩, A280, H⟩ := H
            try dsimp only at H
            have A28 := Aside0.mk A280
            clear A280
            by_cases c29 : x10_2.length < 8796093022208
            ·rw [if_pos c29] at H
             have LMc29 := Aside0.mk c29
             clear c29
             obtain ⟨y142, hy142⟩ : ∃ y_ : List (S101), y_ = (x10_2 ++ [(⟨t139, t140⟩ : S101)]) := ⟨_, rfl⟩
             replace H : ((card_ratio_plus.f k2 x138000_2 x138001_2 (([(⟨t139, t140⟩ : S101)] : List (S101)))).bind fun bt148 => ((card_ratio_around.f bt148.1 bt148.2).bind fun bt150 => (card_Follow.l1 k2 y142 l0 (l0.length : Int) (wrap64 (x46_2 + 1)) bt150.1 bt150.2))) = some (r1, r2, r3) := by first | (rw [hy142]; with_reducible exact H) | (have H2_ := (Option.bind_some _ _).symm.trans H; rw [hy142]; with_reducible exact H2_) | (have H2_ := (Option.bind_some _ _).symm.trans H; with_reducible exact H2_) | with_reducible exact H | (rw [hy142]; exact H) | exact H
             have Ny142 := Aside0.mk hy142
             clear hy142
             obtain ⟨y145, hy145⟩ : ∃ y_ : List (S101), y_ = (([(⟨t139, t140⟩ : S101)] : List (S101))) := ⟨_, rfl⟩
             replace H : ((card_ratio_plus.f k2 x138000_2 x138001_2 y145).bind fun bt148 => ((card_ratio_around.f bt148.1 bt148.2).bind fun bt150 => (card_Follow.l1 k2 y142 l0 (l0.length : Int) (wrap64 (x46_2 + 1)) bt150.1 bt150.2))) = some (r1, r2, r3) := by first | (rw [hy145]; with_reducible exact H) | (have H2_ := (Option.bind_some _ _).symm.trans H; rw [hy145]; with_reducible exact H2_) | (have H2_ := (Option.bind_some _ _).symm.trans H; with_reducible exact H2_) | with_reducible exact H | (rw [hy145]; exact H) | exact H
             have Ny145 := Aside0.mk hy145
             clear hy145
             replace H := zi H
             obtain ⟨⟨t148, t149⟩, A300, H⟩ := H
             try dsimp only at H
             have A30 := Aside0.mk A300
             clear A300
             replace H := zi H
             obtain ⟨⟨t150, t151⟩, A310, H⟩ := H
             try dsimp only at H
             have A31 := Aside0.mk A310
             clear A310
             have H' := Aside0.mk H
             clear H
             have p138 : 0 ≤ (x46_2 : Int) := zp
             have q138 : x46_2 < (l0.length : Int) := zp
             obtain ⟨ad138, A138_0, c138_0, e138, hx138_0, hl138_0, hi138_0⟩ := at_L11 HR0.out x46_2 p138 q138
             cases e138
             replace hx138_0 := (HB.out.cell (World.block_lt_of_cell? w _ hx138_0)).trans hx138_0
             have HR138_0 := Aside0.mk hi138_0
             have HC138_0 := Aside0.mk hl138_0
             clear hi138_0 hl138_0
             replace p138 := eq_true p138
             replace q138 := eq_true q138
             have hnb32 := NB137_131.out
             have hnc32 := NB131_137.out
             have hcz33_0 : wr.cell? ⟨gb137, 0, none⟩ = some (.int .i64 x138000_2) := zy BK137 0
             have hcz33_1 : wr.cell? ⟨gb137, 1, none⟩ = some (.int .i64 x138001_2) := zy BK137 1
             have hfz33_0 := blk_frozen BK137.out 0
             have hfz33_1 := blk_frozen BK137.out 1
             go_wp2_with (first | ((with_reducible refine (card_Card_deviation.calls k2 _ _ (rd_L11 l0 x46_2) x138000_2 x138001_2 t139 t140 _ ?side1 ?side2 A28.out).mono ?_); (case side1 => exact zc (Kd.C_below HR138_0.out HB.out)); (case side2 => exact HC138_0.out); rintro e w34 ⟨rfl, hb⟩; replace HO_10 := zr HO_10 hb; replace BK131 := zk BK131 hb; replace BK137 := zk BK137 hb; replace HB := zd hb; (try clear hb)) | ((with_reducible refine gD 14 rfl ?_); refine zx 14 #[.int .i64 0, .int .i64 0] 101 ?_; intro gb141 hg w35 hbox hb; replace HO_10 := Aside0.mk (Kd.R_below (Kd.R_elderB (zo HO_10.out) gb141 (Nat.le_of_eq hg.symm)) hb); have BK141 := Aside0.mk (hbox); have GE141 := zG w hg; replace HB := zd hb; have NB131_141 := zN BK131 hg; have NB141_131 := zM BK131 hg; replace BK131 := zk BK131 hb; have NB137_141 := zN BK137 hg; have NB141_137 := zM BK137 hg; replace BK137 := zk BK137 hb; clear hb hbox hg; have hnb36 := NB141_131.out; have hnc36 := NB131_141.out; have hnb37 := NB141_137.out; have hnc37 := NB137_141.out; have hcz38_0 : w35.cell? ⟨gb141, 0, none⟩ = some (.int .i64 0) := zy BK141 0; have hcz38_1 : w35.cell? ⟨gb141, 1, none⟩ = some (.int .i64 0) := zy BK141 1; have hfz38_0 := blk_frozen BK141.out 0; have hfz38_1 := blk_frozen BK141.out 1) | ((with_reducible refine gate_builtin (b := .append) (xs := #[.tmp 55, .tmp 57]) rfl ?_); at_builtin; refine Kd.R_append k101 (w0 := w) w.heap.size rfl (.tmp 55) (.tmp 57) 111 101 (.agg #[(.int .i64 0), (.int .i64 0)]) 16 rfl Try.underlying111 info101 rfl (by decide) (by omega) u10 x10_2 (⟨t139, t140⟩ : S101) [.int .i64 t139, .int .i64 t140] (fun k_ => k_ ≠ gb137 ∧ k_ ≠ gb141) (fun _ => False) rfl (by first | (go_simp; done) | (go_simp; rfl)) ?aP (fun _ hk => hk.elim) ?aF ?aO ?aB ?aS ?aL ?_; (case aP => exact k101_mkM _ _ _ (⟨t139, t140⟩ : S101)); (case aB => exact zh); (case aF => exact (fun k_ hk => ⟨Kd.freshB (g := gb137) (o := .cells #[.int .i64 x138000_2, .int .i64 x138001_2] 101 (0, 0)) (by refine zm ?_; refine blk_far ?_ NB137_141.out _; refine zm ?_; refine blk_far ?_ NB137_141.out _; refine zm ?_; exact BK137.out) k_ hk, Kd.freshB (g := gb141) (o := .cells #[.int .i64 t139, .int .i64 t140] 101 (0, 0)) (by refine zm ?_; refine blk_put (cs := #[.int .i64 t139, .int .i64 0]) ?_ 1 _ rfl; refine zm ?_; refine blk_put (cs := #[.int .i64 0, .int .i64 0]) ?_ 0 _ rfl; refine zm ?_; exact BK141.out) k_ hk⟩)); (case aO => exact (by refine zl ?_; exact Kd.R_mono (Kd.R_far (p := ⟨gb141, 1, none⟩) (Kd.R_far (p := ⟨gb141, 0, none⟩) (Kd.R_mono HO_10.out (fun k_ hk => (⟨hk, hk.2⟩ : _ ∧ k_ ≠ gb141))) (fun _ hk => hk.2) (.int .i64 t139)) (fun _ hk => hk.2) (.int .i64 t140)) (fun _ hk => ⟨hk.1.1, hk.1.2⟩))); (case aS => exact (below_size zh)); (case aL => have := LMc29.out; omega); intro v143 w39 ho hb hg hat; rw [← Ny142.out] at ho; replace BK131 := Aside0.mk (blk_grown (g := gb131) (o := .cells #[.int .i64 x132000_1, .int .i64 x132001_1] 29 (0, 0)) (by refine zm ?_; refine blk_far ?_ NB131_141.out _; refine zm ?_; refine blk_far ?_ NB131_141.out _; refine zm ?_; exact BK131.out) hg (Kd.R_ne HO_10.out BK131.out (by decide))); replace BK137 := Aside0.mk (blk_grown (g := gb137) (o := .cells #[.int .i64 x138000_2, .int .i64 x138001_2] 101 (0, 0)) (by refine zm ?_; refine blk_far ?_ NB137_141.out _; refine zm ?_; refine blk_far ?_ NB137_141.out _; refine zm ?_; exact BK137.out) hg (Kd.R_away HO_10.out (fun _ hk => hk.1))); replace BK141 := Aside0.mk (blk_grown (g := gb141) (o := .cells #[.int .i64 t139, .int .i64 t140] 101 (0, 0)) (by refine zm ?_; refine blk_put (cs := #[.int .i64 t139, .int .i64 0]) ?_ 1 _ rfl; refine zm ?_; refine blk_put (cs := #[.int .i64 0, .int .i64 0]) ?_ 0 _ rfl; refine zm ?_; exact BK141.out) hg (Kd.R_away HO_10.out (fun _ hk => hk.2))); replace HB := Aside0.mk (hb); have HO144 := Aside0.mk (ho); clear HO_10; clear ho hb hg hat; have hcz40_0 : w39.cell? ⟨gb137, 0, none⟩ = some (.int .i64 x138000_2) := zy BK137 0; have hcz40_1 : w39.cell? ⟨gb137, 1, none⟩ = some (.int .i64 x138001_2) := zy BK137 1; have hfz40_0 := blk_frozen BK137.out 0; have hfz40_1 := blk_frozen BK137.out 1; have hcz41_0 : w39.cell? ⟨gb141, 0, none⟩ = some (.int .i64 t139) := zy BK141 0; have hcz41_1 : w39.cell? ⟨gb141, 1, none⟩ = some (.int .i64 t140) := zy BK141 1; have hfz41_0 := blk_frozen BK141.out 0; have hfz41_1 := blk_frozen BK141.out 1) | ((with_reducible refine gD 61 rfl ?_); refine Kd.R_lit k101 _ 101 ?hg (N := 61) ?hd (xs := ([(⟨t139, t140⟩ : S101)] : List (S101))) (inner := [.int .i64 t139, .int .i64 t140]) (ok := fun _ => True) (okp := fun _ => True) ?hr ?hp (fun _ hk => hk) trivial (Below.refl _ _) (Nat.le_refl _) (by simp) ?_; (case hd => rfl); (case hg => rfl); (case hr => first | (go_simp; done) | (go_simp; rfl)); (case hp => exact (Reps.c2 (show Kd.M k101 _ _ _ (⟨t139, t140⟩ : S101) [.int .i64 t139, .int .i64 t140] from (k101_mkM _ _ _ (⟨t139, t140⟩ : S101) )) (Reps.none _ _))); intro v146 w42 ho43 hb hg_ hnew_; clear hg_ hnew_; (first | rw [← Ny145.out] at ho43 | (simp only [Int.reduceToNat] at ho43; rw [← Ny145.out] at ho43)); have HO147 := Aside0.mk (Kd.R_lower (Kd.R_newB (Kd.R_newB (Kd.R_new' ho43 (Kd.R_lt (zo HO144.out))) (g := gb137) (o := .cells #[.int .i64 x138000_2, .int .i64 x138001_2] 101 (0, 0)) (zb BK137)) (g := gb141) (o := .cells #[.int .i64 t139, .int .i64 t140] 101 (0, 0)) (zb BK141)) (below_size zh)); replace HO144 := Aside0.mk (Kd.R_elder' (zo HO144.out) (Kd.R_base ho43) hb); replace BK131 := zk BK131 hb; replace BK137 := zk BK137 hb; replace HB := zd hb; clear hb ho43; obtain ⟨Ao44, co44, eo44⟩ := Kd.R_slice HO147.out; subst eo44) | ((with_reducible refine gC 76 rfl ?_); refine gL 62 Try.func76 #[.agg #[.int .i64 x138000_2, .int .i64 x138001_2], .slice Ao44 y145.length co44] ?_; (with_reducible refine (card_ratio_plus.calls k2 x138000_2 x138001_2 _ _ y145 t148 t149 _ ?side1 ?side2 A30.out).mono ?_); (case side1 => exact zc (Kd.R_reads' HO147.out).2.2); (case side2 => exact (Kd.R_reads' HO147.out).2.1); rintro e w45 ⟨rfl, hb⟩; refine ⟨_, rfl, ?_⟩; replace HO144 := zr HO144 hb; replace BK131 := zk BK131 hb; replace BK137 := zk BK137 hb; replace HB := zd hb; (try clear hb)) | ((with_reducible refine gC 72 rfl ?_); refine gL 63 Try.func72 #[.agg #[.int .i64 t148, .int .i64 t149]] ?_; (with_reducible refine (card_ratio_around.calls t148 t149 t150 t151 _ A31.out).mono ?_); rintro e w46 ⟨rfl, hb⟩; refine ⟨_, rfl, ?_⟩; replace HO144 := zr HO144 hb; replace BK131 := zk BK131 hb; replace BK137 := zk BK137 hb; replace HB := zd hb; (try clear hb); have hcz47_0 : w46.cell? ⟨gb137, 0, none⟩ = some (.int .i64 x138000_2) := zy BK137 0; have hcz47_1 : w46.cell? ⟨gb137, 1, none⟩ = some (.int .i64 x138001_2) := zy BK137 1; have hfz47_0 := blk_frozen BK137.out 0; have hfz47_1 := blk_frozen BK137.out 1))
             go_roundg k2
             case measure => have := HK1.out; have := HK2.out; omega
             case rel => exact ⟨(y142), (wrap64 (x46_2 + 1)), (t150), (t151), (by first | rfl | (simp; done) | (simp [*]; done)), H', ⟨by have := HK1.out; have := HK2.out; omega⟩, ⟨by refine zl ?_; exact Kd.R_mono (Kd.R_far (p := ⟨gb137, 1, none⟩) (Kd.R_far (p := ⟨gb137, 0, none⟩) (Kd.R_mono HO144.out (fun k_ hk => (⟨hk, hk.1.1⟩ : _ ∧ k_ ≠ gb137))) (fun _ hk => hk.2) (.int .i64 t150)) (fun _ hk => hk.2) (.int .i64 t151)) (fun _ hk => hk.1.1.1)⟩, ⟨by refine zm ?_; refine blk_far ?_ NB131_137.out _; refine zm ?_; refine blk_far ?_ NB131_137.out _; refine zm ?_; exact BK131.out⟩, ⟨by refine zm ?_; refine blk_put (cs := #[.int .i64 t150, .int .i64 x138001_2]) ?_ 1 _ rfl; refine zm ?_; refine blk_put (cs := #[.int .i64 x138000_2, .int .i64 x138001_2]) ?_ 0 _ rfl; refine zm ?_; exact BK137.out⟩, ⟨zh⟩⟩
            ·rw [if_neg c29] at H
             exact absurd H (by simp)
           ·rw [if_neg c27] at H
            exact absurd H (by simp)
          ·rw [if_neg c26] at H
           exact absurd H (by simp)
         ·rw [if_neg c25] at H
          have c25b0 : decide (x46_2 < (l0.length : Int)) = false := decide_eq_false c25
          clear c25
          replace H := zi H
          obtain ⟨⟨t152, t153⟩, A480, H⟩ := H
          try dsimp only at H
          have A48 := Aside0.mk A480
          clear A480
          replace H := zi H
          obtain ⟨⟨t154, t155⟩, A490, H⟩ := H
          try dsimp only at H
          have A49 := Aside0.mk A490
          clear A490
          replace H := zi H
          obtain ⟨⟨t156, t157⟩, A500, H⟩ := H
          try dsimp only at H
          have A50 := Aside0.mk A500
          clear A500
          simp only [Option.some.injEq, Prod.mk.injEq] at H
          obtain ⟨rfl, rfl, rfl⟩ := H
          go_wp2_with (first | ((with_reducible refine gC 54 rfl ?_); refine gL 65 Try.func54 #[.int .i64 0] ?_; (with_reducible refine (card_whole.calls 0 t152 t153 _ A48.out).mono ?_); rintro e w51 ⟨rfl, hb⟩; refine ⟨_, rfl, ?_⟩; replace HO_10 := zr HO_10 hb; replace BK131 := zk BK131 hb; replace HB := zd hb; (try clear hb); obtain ⟨Ao52, co52, eo52⟩ := Kd.R_slice HO_10.out; subst eo52) | ((with_reducible refine gC 76 rfl ?_); refine gL 67 Try.func76 #[.agg #[.int .i64 t152, .int .i64 t153], .slice Ao52 x10_2.length co52] ?_; (with_reducible refine (card_ratio_plus.calls k2 t152 t153 _ _ x10_2 t154 t155 _ ?side1 ?side2 A49.out).mono ?_); (case side1 => exact zc (Kd.R_reads' HO_10.out).2.2); (case side2 => exact (Kd.R_reads' HO_10.out).2.1); rintro e w53 ⟨rfl, hb⟩; refine ⟨_, rfl, ?_⟩; replace BK131 := zk BK131 hb; replace HB := zd hb; (try clear hb)) | ((with_reducible refine gC 55 rfl ?_); refine gL 68 Try.func55 #[.agg #[.int .i64 t154, .int .i64 t155]] ?_; (with_reducible refine (card_ratio_out.calls t154 t155 t156 t157 _ A50.out).mono ?_); rintro e w54 ⟨rfl, hb⟩; refine ⟨_, rfl, ?_⟩; replace BK131 := zk BK131 hb; replace HB := zd hb; (try clear hb); have hnb55 := NB131_137.out; have hnc55 := NB137_131.out; have hcz56_0 : w54.cell? ⟨gb131, 0, none⟩ = some (.int .i64 x132000_1) := zy BK131 0; have hcz56_1 : w54.cell? ⟨gb131, 1, none⟩ = some (.int .i64 x132001_1) := zy BK131 1; have hfz56_0 := blk_frozen BK131.out 0; have hfz56_1 := blk_frozen BK131.out 1))
          refine bodyPost_ret (results_ct rfl _ _ gb131 29 #[.int .i64 t156, .int .i64 t157] (0, 0) _ rfl (by refine zm ?_; refine blk_put (cs := #[.int .i64 t156, .int .i64 x132001_1]) ?_ 1 _ rfl; refine zm ?_; refine blk_put (cs := #[.int .i64 x132000_1, .int .i64 x132001_1]) ?_ 0 _ rfl; refine zm ?_; exact BK131.out) Try.underlying29 rfl (by kernel_rfl)) rfl ?_
          exact ⟨ze, zh⟩
      ·replace c19 := Bool.eq_false_iff.mpr c19
       subst c19
       rw [if_neg (show ¬ (false = true) by decide)] at H
       simp only [Option.some.injEq, Prod.mk.injEq] at H
       obtain ⟨rfl, rfl, rfl⟩ := H
       go_wp2_with (first | ((with_reducible refine gC 52 rfl ?_); refine gL 39 Try.func52 #[.int .i64 a1] ?_; (with_reducible refine (card_heading.calls a1 false _ A18.out).mono ?_); rintro e w' ⟨rfl, ⟨nd, rfl⟩⟩; refine ⟨_, rfl, ?_⟩; (try (rw [drewN_self wr]; generalize hq_ : World.drewN wr _ = wr; have n0_ : Aside0 (wr.heap[gb131]? = some (.cells #[.int .i64 x132000_1, .int .i64 x132001_1] 29 (0, 0))) := ⟨by rw [← hq_]; exact (zb BK131)⟩; have n1_ : Aside0 (Below w.heap.size w wr) := ⟨by rw [← hq_]; exact zh⟩; clear BK131 HB hq_; have BK131 := n0_; have HB := n1_; clear n0_ n1_)); have hcz57_0 : wr.cell? ⟨gb131, 0, none⟩ = some (.int .i64 x132000_1) := zy BK131 0; have hcz57_1 : wr.cell? ⟨gb131, 1, none⟩ = some (.int .i64 x132001_1) := zy BK131 1; have hfz57_0 := blk_frozen BK131.out 0; have hfz57_1 := blk_frozen BK131.out 1))
       refine bodyPost_ret (results_ct rfl _ _ gb131 29 #[.int .i64 0, .int .i64 0] (0, 0) _ rfl (by refine zm ?_; refine blk_put (cs := #[.int .i64 0, .int .i64 x132001_1]) ?_ 1 _ rfl; refine zm ?_; refine blk_put (cs := #[.int .i64 x132000_1, .int .i64 x132001_1]) ?_ 0 _ rfl; refine zm ?_; exact BK131.out) Try.underlying29 rfl (by kernel_rfl)) rfl ?_
       exact ⟨ze, zh⟩
end Go.Proofs.Ytccjefoejjnccaa.C
