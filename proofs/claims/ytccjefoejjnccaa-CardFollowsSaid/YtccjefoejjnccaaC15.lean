-- Written by a program of this session (wip/tools/myprint.py, over the kit's print).
import Derived.Test.YtccjefoejjnccaaC0
import Derived.Test.YtccjefoejjnccaaC6
import Derived.Test.YtccjefoejjnccaaC7
import Derived.Test.YtccjefoejjnccaaC9
import Derived.Test.YtccjefoejjnccaaC10
import Derived.Test.YtccjefoejjnccaaC11
import Derived.Test.YtccjefoejjnccaaZ
namespace Go.Proofs.Ytccjefoejjnccaa.C
open Go.RowKit Go.Proofs.YtccjefoejjnccaaW.PrintWords Go.Proofs.YtccjefoejjnccaaW.PrintLast Go.Proofs.YtccjefoejjnccaaW.PrintMore
attribute [local go_sem] max2_int min2_int max_two min_two max_three min_three max_four min_four   -- for this text's walks alone
set_option linter.unusedVariables false
set_option linter.unusedSimpArgs false
mutual
def agonicref05_Follow.l0 : Nat → List (List (S54)) → Int → Int → Option (Int × Int × Int)
 | 0, _, _, _ => none
 | k + 1, x0, x1, x6 => if x6 < (x0.length : Int) then (if 0 ≤ x6 then ((agonicref05_Check.f k (rd_L7 x0 x6)).bind fun t321 => (if t321 = 0 then (agonicref05_Follow.l0 k x0 x1 (wrap64 (x6 + 1))) else (some (0, 0, t321)))) else (none)) else ((agonicref05_heading.f x1).bind fun t322 => (if t322 = true then ((agonicref05_whole.f 0).bind fun bt323 => ((agonicref05_whole.f x1).bind fun bt325 => (agonicref05_Follow.l1 k x0 0 bt323.1 bt323.2 bt325.1 bt325.2))) else (some (0, 0, 1))))
def agonicref05_Follow.l1 : Nat → List (List (S54)) → Int → Int → Int → Int → Int → Option (Int × Int × Int)
 | 0, _, _, _, _, _, _ => none
 | k + 1, x0, x10, x328000, x328001, x329000, x329001 => if x10 < (x0.length : Int) then (if 0 ≤ x10 then ((agonicref05_deviation.f k (rd_L7 x0 x10) x329000 x329001).bind fun bt330 => ((agonicref05_Plus.f k x328000 x328001 bt330.1 bt330.2).bind fun bt333 => ((agonicref05_Plus.f k x329000 x329001 bt330.1 bt330.2).bind fun bt335 => ((agonicref05_around.f k bt335.1 bt335.2).bind fun bt337 => (agonicref05_Follow.l1 k x0 (wrap64 (x10 + 1)) bt333.1 bt333.2 bt337.1 bt337.2))))) else (none)) else (some (x328000, x328001, 0))
end
def agonicref05_Follow.f (k : Nat) (l0 : List (List (S54))) (a1 : Int) : Option (Int × Int × Int) := if (l0.length : Int) = 0 then (some (0, 0, 2)) else (if (l0.length : Int) > 3 then (some (0, 0, 3)) else (agonicref05_Follow.l0 k l0 a1 0))
def agonicref05_Follow.T17 : Bool × List (List Nat × List Nat) := (true, [([], []), ([], []), ([0, 1], [0, 1]), ([2], [2]), ([], []), ([3, 4], [3, 4]), ([], []), ([6, 5, 5, 0, 1, 2, 3, 4, 5, 6], [5, 6])])
def agonicref05_Follow.B17 : List Nat := [0, 0, 3, 7, 0, 31, 0, 127]
theorem agonicref05_Follow.tab17 : rtab .any (opsOf Try.f31 17) = agonicref05_Follow.T17 := by kernel_rfl
theorem agonicref05_Follow.bits17 : waitsOk agonicref05_Follow.T17.2 agonicref05_Follow.B17 = true := by kernel_rfl
def agonicref05_Follow.T18 : Bool × List (List Nat × List Nat) := (true, [([], []), ([], []), ([0, 1], [0, 1]), ([], []), ([], []), ([3, 4, 2], [3, 4]), ([5, 5], [5]), ([2, 6, 0, 1, 2], [2]), ([6, 7, 0, 1, 2, 3, 4, 5, 6, 7], [6])])
def agonicref05_Follow.B18 : List Nat := [0, 0, 3, 0, 0, 31, 63, 127, 255]
theorem agonicref05_Follow.tab18 : rtab .any (opsOf Try.f31 18) = agonicref05_Follow.T18 := by kernel_rfl
theorem agonicref05_Follow.bits18 : waitsOk agonicref05_Follow.T18.2 agonicref05_Follow.B18 = true := by kernel_rfl
set_option maxHeartbeats 8000000 in
set_option maxRecDepth 100000 in
theorem agonicref05_Follow.calls (k : Nat) (A0 : Option Addr) (c0 : Nat) (l0 : List (List (S54))) (a1 : Int) (r1 : Int) (r2 : Int) (r3 : Int) (w : World) (hr0 : Kd.C (Kd.slice 54 k54) w A0 l0.length l0) (hc0 : l0.length ≤ c0) (h : agonicref05_Follow.f k l0 a1 = some (r1, r2, r3)) :
  Calls Try.prog 31 #[.slice A0 l0.length c0, .int .i64 a1] w fun e w' => e = .returned (.tuple #[.agg #[.int .i64 r1, .int .i64 r2], .int .i64 r3]) ∧ Below w.heap.size w w' := by
 have hu29 := Try.underlying29
 have HR0 := Aside0.mk hr0
 have HC0 := Aside0.mk hc0
 clear hr0 hc0
 have HB := Aside0.mk (Below.refl w.heap.size w)
 have H : (if (l0.length : Int) = 0 then (some (0, 0, 2)) else (if (l0.length : Int) > 3 then (some (0, 0, 3)) else (agonicref05_Follow.l0 k l0 a1 0))) = some (r1, r2, r3) := h
 clear h
 by_cases c3 : (l0.length : Int) = 0
 ·rw [if_pos c3] at H
  have c3b0 : ((l0.length : Int) == 0) = true := beq_iff_eq.mpr c3
  have c3b1 : ((l0.length : Int) != 0) = false := bne_eq_false_iff_eq.mpr c3
  clear c3
  simp only [Option.some.injEq, Prod.mk.injEq] at H
  obtain ⟨rfl, rfl, rfl⟩ := H
  go_enter Try.func31, Try.ntmps31
  go_wp2_with (first | ((with_reducible refine gD 4 rfl ?_); refine zx 4 #[.int .i64 0, .int .i64 0] 29 ?_; intro gb319 hg w4 hbox hb; have BK319 := Aside0.mk (hbox); have GE319 := zG w hg; replace HB := zd hb; clear hb hbox hg; have hcz5_0 : w4.cell? ⟨gb319, 0, none⟩ = some (.int .i64 0) := zy BK319 0; have hcz5_1 : w4.cell? ⟨gb319, 1, none⟩ = some (.int .i64 0) := zy BK319 1; have hfz5_0 := blk_frozen BK319.out 0; have hfz5_1 := blk_frozen BK319.out 1))
  refine bodyPost_ret (results_ct rfl _ _ gb319 29 #[.int .i64 0, .int .i64 0] (0, 0) _ rfl (by refine zm ?_; refine blk_put (cs := #[.int .i64 0, .int .i64 0]) ?_ 1 _ rfl; refine zm ?_; refine blk_put (cs := #[.int .i64 0, .int .i64 0]) ?_ 0 _ rfl; refine zm ?_; exact BK319.out) Try.underlying29 rfl (by kernel_rfl)) rfl ?_
  exact ⟨ze, zh⟩
 ·rw [if_neg c3] at H
  have c3b0 : ((l0.length : Int) == 0) = false := beq_eq_false_iff_ne.mpr c3
  have c3b1 : ((l0.length : Int) != 0) = true := bne_iff_ne.mpr c3
  have c3b2 : ¬ (l0 = []) := fun h_ => c3 (by rw [h_]; rfl)
  by_cases c6 : (l0.length : Int) > 3
  ·rw [if_pos c6] at H
   have c6b0 : decide (3 < (l0.length : Int)) = true := decide_eq_true c6
   have c6b1 : decide (3 < l0.length) = true := decide_eq_true (by omega)
   clear c6
   simp only [Option.some.injEq, Prod.mk.injEq] at H
   obtain ⟨rfl, rfl, rfl⟩ := H
   go_enter Try.func31, Try.ntmps31
   go_wp2_with (first | ((with_reducible refine gD 4 rfl ?_); refine zx 4 #[.int .i64 0, .int .i64 0] 29 ?_; intro gb319 hg w7 hbox hb; have BK319 := Aside0.mk (hbox); have GE319 := zG w hg; replace HB := zd hb; clear hb hbox hg; have hcz8_0 : w7.cell? ⟨gb319, 0, none⟩ = some (.int .i64 0) := zy BK319 0; have hcz8_1 : w7.cell? ⟨gb319, 1, none⟩ = some (.int .i64 0) := zy BK319 1; have hfz8_0 := blk_frozen BK319.out 0; have hfz8_1 := blk_frozen BK319.out 1))
   refine bodyPost_ret (results_ct rfl _ _ gb319 29 #[.int .i64 0, .int .i64 0] (0, 0) _ rfl (by refine zm ?_; refine blk_put (cs := #[.int .i64 0, .int .i64 0]) ?_ 1 _ rfl; refine zm ?_; refine blk_put (cs := #[.int .i64 0, .int .i64 0]) ?_ 0 _ rfl; refine zm ?_; exact BK319.out) Try.underlying29 rfl (by kernel_rfl)) rfl ?_
   exact ⟨ze, zh⟩
  ·rw [if_neg c6] at H
   have c6b0 : decide (3 < (l0.length : Int)) = false := decide_eq_false c6
   have c6b1 : decide (3 < l0.length) = false := decide_eq_false (by omega)
   clear c6
   have H' := Aside0.mk H
   clear H
   go_enter Try.func31, Try.ntmps31
   go_wp2_with (first | ((with_reducible refine gD 4 rfl ?_); refine zx 4 #[.int .i64 0, .int .i64 0] 29 ?_; intro gb319 hg w9 hbox hb; have BK319 := Aside0.mk (hbox); have GE319 := zG w hg; replace HB := zd hb; clear hb hbox hg))
   go_loopg [6] k (fun kq v6 w' => ∃ (x6_1 : Int) (x320000_1 : Int) (x320001_1 : Int), v6 = .int .i64 x6_1 ∧ Aside0 (agonicref05_Follow.l0 kq l0 a1 x6_1 = some (r1, r2, r3)) ∧ Aside0 (kq ≤ k) ∧ Aside0 (w'.heap[gb319]? = some (.cells #[.int .i64 x320000_1, .int .i64 x320001_1] 29 (0, 0))) ∧ Aside0 (Below w.heap.size w w'))
   case atStart => exact ⟨(0), (0), (0), (by first | rfl | (simp; done) | (simp [*]; done)), H', ⟨Nat.le_refl _⟩, ⟨by refine zm ?_; exact BK319.out⟩, ⟨zh⟩⟩
   case round =>
    clear H'
    try clear p2
    try clear c3
    try clear c3b0
    try clear c3b1
    try clear c3b2
    try clear c6
    try clear c6b0
    try clear c6b1
    try clear hcz5_0
    try clear hcz5_1
    try clear hcz8_0
    try clear hcz8_1
    try clear hfz5_0
    try clear hfz5_1
    try clear hfz8_0
    try clear hfz8_1
    obtain ⟨x6_1, x320000_1, x320001_1, rfl, HA, HK1, BK319, HB⟩ := hrel
    cases gk with
    | zero => exact absurd HA.out (by simp [agonicref05_Follow.l0])
    | succ k1 =>
     have H := HA.out
     clear HA
     simp only [agonicref05_Follow.l0] at H
     by_cases c10 : x6_1 < (l0.length : Int)
     ·rw [if_pos c10] at H
      have c10b0 : decide (x6_1 < (l0.length : Int)) = true := decide_eq_true c10
      clear c10
      by_cases c11 : 0 ≤ x6_1
      ·rw [if_pos c11] at H
       have c11b0 : decide (0 ≤ x6_1) = true := decide_eq_true c11
       clear c11
       replace H := zi H
       obtain ⟨t321, A120, H⟩ := H
       try dsimp only at H
       have A12 := Aside0.mk A120
       clear A120
       by_cases c13 : t321 = 0
       ·rw [if_pos c13] at H
        have c13b0 : (t321 == 0) = true := beq_iff_eq.mpr c13
        have c13b1 : (t321 != 0) = false := bne_eq_false_iff_eq.mpr c13
        clear c13
        have H' := Aside0.mk H
        clear H
        have p320 : 0 ≤ (x6_1 : Int) := zp
        have q320 : x6_1 < (l0.length : Int) := zp
        obtain ⟨ad320, A320_0, c320_0, e320, hx320_0, hl320_0, hi320_0⟩ := at_L7 HR0.out x6_1 p320 q320
        cases e320
        replace hx320_0 := (HB.out.cell (World.block_lt_of_cell? w _ hx320_0)).trans hx320_0
        have HR320_0 := Aside0.mk hi320_0
        have HC320_0 := Aside0.mk hl320_0
        clear hi320_0 hl320_0
        replace p320 := eq_true p320
        replace q320 := eq_true q320
        go_wp2_with (first | ((with_reducible refine gC 22 rfl ?_); refine gL 30 Try.func22 #[.slice A320_0 (rd_L7 l0 x6_1).length c320_0] ?_; (with_reducible refine (agonicref05_Check.calls k1 _ _ (rd_L7 l0 x6_1) t321 _ ?side1 ?side2 A12.out).mono ?_); (case side1 => exact zc (Kd.C_below HR320_0.out HB.out)); (case side2 => exact HC320_0.out); rintro e w' ⟨rfl, ⟨nd, rfl⟩⟩; refine ⟨_, rfl, ?_⟩))
        go_roundg k1
        case measure => have := HK1.out; omega
        case rel => exact ⟨(wrap64 (x6_1 + 1)), (x320000_1), (x320001_1), (by first | rfl | (simp; done) | (simp [*]; done)), H', ⟨by have := HK1.out; omega⟩, ⟨by refine zm ?_; exact BK319.out⟩, ⟨zh⟩⟩
       ·rw [if_neg c13] at H
        have c13b0 : (t321 == 0) = false := beq_eq_false_iff_ne.mpr c13
        have c13b1 : (t321 != 0) = true := bne_iff_ne.mpr c13
        simp only [Option.some.injEq, Prod.mk.injEq] at H
        obtain ⟨rfl, rfl, rfl⟩ := H
        have p320 : 0 ≤ (x6_1 : Int) := zp
        have q320 : x6_1 < (l0.length : Int) := zp
        obtain ⟨ad320, A320_0, c320_0, e320, hx320_0, hl320_0, hi320_0⟩ := at_L7 HR0.out x6_1 p320 q320
        cases e320
        replace hx320_0 := (HB.out.cell (World.block_lt_of_cell? w _ hx320_0)).trans hx320_0
        have HR320_0 := Aside0.mk hi320_0
        have HC320_0 := Aside0.mk hl320_0
        clear hi320_0 hl320_0
        replace p320 := eq_true p320
        replace q320 := eq_true q320
        go_wp2_with (first | ((with_reducible refine gC 22 rfl ?_); refine gL 30 Try.func22 #[.slice A320_0 (rd_L7 l0 x6_1).length c320_0] ?_; (with_reducible refine (agonicref05_Check.calls k1 _ _ (rd_L7 l0 x6_1) t321 _ ?side1 ?side2 A12.out).mono ?_); (case side1 => exact zc (Kd.C_below HR320_0.out HB.out)); (case side2 => exact HC320_0.out); rintro e w' ⟨rfl, ⟨nd, rfl⟩⟩; refine ⟨_, rfl, ?_⟩; (try (rw [drewN_self wr]; generalize hq_ : World.drewN wr _ = wr; have n0_ : Aside0 (wr.heap[gb319]? = some (.cells #[.int .i64 x320000_1, .int .i64 x320001_1] 29 (0, 0))) := ⟨by rw [← hq_]; exact (zb BK319)⟩; have n1_ : Aside0 (Below w.heap.size w wr) := ⟨by rw [← hq_]; exact zh⟩; clear BK319 HB hq_; have BK319 := n0_; have HB := n1_; clear n0_ n1_)); have hcz14_0 : wr.cell? ⟨gb319, 0, none⟩ = some (.int .i64 x320000_1) := zy BK319 0; have hcz14_1 : wr.cell? ⟨gb319, 1, none⟩ = some (.int .i64 x320001_1) := zy BK319 1; have hfz14_0 := blk_frozen BK319.out 0; have hfz14_1 := blk_frozen BK319.out 1))
        refine bodyPost_ret (results_ct rfl _ _ gb319 29 #[.int .i64 0, .int .i64 0] (0, 0) _ rfl (by refine zm ?_; refine blk_put (cs := #[.int .i64 0, .int .i64 x320001_1]) ?_ 1 _ rfl; refine zm ?_; refine blk_put (cs := #[.int .i64 x320000_1, .int .i64 x320001_1]) ?_ 0 _ rfl; refine zm ?_; exact BK319.out) Try.underlying29 rfl (by kernel_rfl)) rfl ?_
        exact ⟨ze, zh⟩
      ·rw [if_neg c11] at H
       exact absurd H (by simp)
     ·rw [if_neg c10] at H
      have c10b0 : decide (x6_1 < (l0.length : Int)) = false := decide_eq_false c10
      clear c10
      replace H := zi H
      obtain ⟨t322, A150, H⟩ := H
      try dsimp only at H
      have A15 := Aside0.mk A150
      clear A150
      by_cases c16 : t322 = true
      ·subst c16
       rw [if_pos rfl] at H
       replace H := zi H
       obtain ⟨⟨t323, t324⟩, A170, H⟩ := H
       try dsimp only at H
       have A17 := Aside0.mk A170
       clear A170
       replace H := zi H
       obtain ⟨⟨t325, t326⟩, A180, H⟩ := H
       try dsimp only at H
       have A18 := Aside0.mk A180
       clear A180
       have H' := Aside0.mk H
       clear H
       go_wp2_with (first | ((with_reducible refine gC 56 rfl ?_); refine gL 36 Try.func56 #[.int .i64 a1] ?_; (with_reducible refine (agonicref05_heading.calls a1 true _ A15.out).mono ?_); rintro e w' ⟨rfl, ⟨nd, rfl⟩⟩; refine ⟨_, rfl, ?_⟩; (try (rw [drewN_self wr]; generalize hq_ : World.drewN wr _ = wr; have n0_ : Aside0 (wr.heap[gb319]? = some (.cells #[.int .i64 x320000_1, .int .i64 x320001_1] 29 (0, 0))) := ⟨by rw [← hq_]; exact (zb BK319)⟩; have n1_ : Aside0 (Below w.heap.size w wr) := ⟨by rw [← hq_]; exact zh⟩; clear BK319 HB hq_; have BK319 := n0_; have HB := n1_; clear n0_ n1_))) | ((with_reducible refine gC 58 rfl ?_); refine gL 39 Try.func58 #[.int .i64 0] ?_; (with_reducible refine (agonicref05_whole.calls 0 t323 t324 _ A17.out).mono ?_); rintro e w19 ⟨rfl, hb⟩; refine ⟨_, rfl, ?_⟩; replace BK319 := zk BK319 hb; replace HB := zd hb; (try clear hb)) | ((with_reducible refine gC 58 rfl ?_); refine gL 41 Try.func58 #[.int .i64 a1] ?_; (with_reducible refine (agonicref05_whole.calls a1 t325 t326 _ A18.out).mono ?_); rintro e w20 ⟨rfl, hb⟩; refine ⟨_, rfl, ?_⟩; replace BK319 := zk BK319 hb; replace HB := zd hb; (try clear hb)) | ((with_reducible refine gD 8 rfl ?_); refine zx 8 #[.int .i64 0, .int .i64 0] 29 ?_; intro gb327 hg w21 hbox hb; have BK327 := Aside0.mk (hbox); have GE327 := zG w hg; replace HB := zd hb; have NB319_327 := zN BK319 hg; have NB327_319 := zM BK319 hg; replace BK319 := zk BK319 hb; clear hb hbox hg) | ((with_reducible refine gD 9 rfl ?_); refine zx 9 #[.int .i64 0, .int .i64 0] 29 ?_; intro gb328 hg w22 hbox hb; have BK328 := Aside0.mk (hbox); have GE328 := zG w hg; replace HB := zd hb; have NB319_328 := zN BK319 hg; have NB328_319 := zM BK319 hg; replace BK319 := zk BK319 hb; have NB327_328 := zN BK327 hg; have NB328_327 := zM BK327 hg; replace BK327 := zk BK327 hb; clear hb hbox hg; have hnb23 := NB327_319.out; have hnc23 := NB319_327.out; have hnb24 := NB327_328.out; have hnc24 := NB328_327.out; have hcz25_0 : w22.cell? ⟨gb327, 0, none⟩ = some (.int .i64 0) := zy BK327 0; have hcz25_1 : w22.cell? ⟨gb327, 1, none⟩ = some (.int .i64 0) := zy BK327 1; have hfz25_0 := blk_frozen BK327.out 0; have hfz25_1 := blk_frozen BK327.out 1; have hnb26 := NB328_319.out; have hnc26 := NB319_328.out; have hcz27_0 : w22.cell? ⟨gb328, 0, none⟩ = some (.int .i64 0) := zy BK328 0; have hcz27_1 : w22.cell? ⟨gb328, 1, none⟩ = some (.int .i64 0) := zy BK328 1; have hfz27_0 := blk_frozen BK328.out 0; have hfz27_1 := blk_frozen BK328.out 1))
       go_loopg [10] k1 (fun kq v10 w' => ∃ (x10_2 : Int) (x328000_2 : Int) (x328001_2 : Int) (x329000_2 : Int) (x329001_2 : Int), v10 = .int .i64 x10_2 ∧ Aside0 (agonicref05_Follow.l1 kq l0 x10_2 x328000_2 x328001_2 x329000_2 x329001_2 = some (r1, r2, r3)) ∧ Aside0 (kq ≤ k1) ∧ Aside0 (w'.heap[gb319]? = some (.cells #[.int .i64 x320000_1, .int .i64 x320001_1] 29 (0, 0))) ∧ Aside0 (w'.heap[gb327]? = some (.cells #[.int .i64 x328000_2, .int .i64 x328001_2] 29 (0, 0))) ∧ Aside0 (w'.heap[gb328]? = some (.cells #[.int .i64 x329000_2, .int .i64 x329001_2] 29 (0, 0))) ∧ Aside0 (Below w.heap.size w w'))
       case atStart => exact ⟨(0), (t323), (t324), (t325), (t326), (by first | rfl | (simp; done) | (simp [*]; done)), H', ⟨Nat.le_refl _⟩, ⟨by refine zm ?_; refine blk_far ?_ NB319_328.out _; refine zm ?_; refine blk_far ?_ NB319_328.out _; refine zm ?_; refine blk_far ?_ NB319_327.out _; refine zm ?_; refine blk_far ?_ NB319_327.out _; refine zm ?_; exact BK319.out⟩, ⟨by refine zm ?_; refine blk_far ?_ NB327_328.out _; refine zm ?_; refine blk_far ?_ NB327_328.out _; refine zm ?_; refine blk_put (cs := #[.int .i64 t323, .int .i64 0]) ?_ 1 _ rfl; refine zm ?_; refine blk_put (cs := #[.int .i64 0, .int .i64 0]) ?_ 0 _ rfl; refine zm ?_; exact BK327.out⟩, ⟨by refine zm ?_; refine blk_put (cs := #[.int .i64 t325, .int .i64 0]) ?_ 1 _ rfl; refine zm ?_; refine blk_put (cs := #[.int .i64 0, .int .i64 0]) ?_ 0 _ rfl; refine zm ?_; refine blk_far ?_ NB328_327.out _; refine zm ?_; refine blk_far ?_ NB328_327.out _; refine zm ?_; exact BK328.out⟩, ⟨zh⟩⟩
       case round =>
        clear H'
        try clear c1
        try clear c2
        try clear p2
        try clear c3
        try clear c3b0
        try clear c3b1
        try clear c3b2
        try clear p3
        try clear q3
        try clear hx3
        try clear c5
        try clear c6
        try clear c6b0
        try clear c6b1
        try clear p6
        try clear c10
        try clear c10b0
        try clear c11
        try clear c11b0
        try clear c13
        try clear c13b0
        try clear c13b1
        try clear c16
        try clear c22
        try clear c23
        try clear c24
        try clear c26
        try clear hcz14_0
        try clear hcz14_1
        try clear hcz25_0
        try clear hcz25_1
        try clear hcz27_0
        try clear hcz27_1
        try clear hcz5_0
        try clear hcz5_1
        try clear hcz8_0
        try clear hcz8_1
        try clear hfz14_0
        try clear hfz14_1
        try clear hfz25_0
        try clear hfz25_1
        try clear hfz27_0
        try clear hfz27_1
        try clear hfz5_0
        try clear hfz5_1
        try clear hfz8_0
        try clear hfz8_1
        try clear hx320_0
        try clear p2
        try clear p320
        try clear q320
        obtain ⟨x10_2, x328000_2, x328001_2, x329000_2, x329001_2, rfl, HA, HK2, BK319, BK327, BK328, HB⟩ := hrel
        cases gk with
        | zero => exact absurd HA.out (by simp [agonicref05_Follow.l1])
        | succ k2 =>
         have H := HA.out
         clear HA
         simp only [agonicref05_Follow.l1] at H
         by_cases c28 : x10_2 < (l0.length : Int)
         ·rw [if_pos c28] at H
          have c28b0 : decide (x10_2 < (l0.length : Int)) = true := decide_eq_true c28
          clear c28
          by_cases c29 : 0 ≤ x10_2
          ·rw [if_pos c29] at H
           have c29b0 : decide (0 ≤ x10_2) = true := decide_eq_true c29
           clear c29
           replace H := zi H
           obtain ⟨⟨t330, t331⟩, A300, H⟩ := H
           try dsimp only at H
           have A30 := Aside0.mk A300
           clear A300
           replace H := zi H
           obtain ⟨⟨t333, t334⟩, A310, H⟩ := H
           try dsimp only at H
           have A31 := Aside0.mk A310
           clear A310
           replace H := zi H
           obtain ⟨⟨t335, t336⟩, A320, H⟩ := H
           try dsimp only at H
           have A32 := Aside0.mk A320
           clear A320
           replace H := zi H
           obtain ⟨⟨t337, t338⟩, A330, H⟩ := H
           try dsimp only at H
           have A33 := Aside0.mk A330
           clear A330
           have H' := Aside0.mk H
           clear H
           try go_wp2
           replace BK319 := Aside0.mk (blk_drew BK319.out)
           replace BK327 := Aside0.mk (blk_drew BK327.out)
           replace BK328 := Aside0.mk (blk_drew BK328.out)
           replace HB := Aside0.mk (below_drew1 HB.out)
           have p329 : 0 ≤ (x10_2 : Int) := zp
           have q329 : x10_2 < (l0.length : Int) := zp
           obtain ⟨ad329, A329_0, c329_0, e329, hx329_0, hl329_0, hi329_0⟩ := at_L7 HR0.out x10_2 p329 q329
           have hw329_0 := hx329_0
           cases e329
           replace hx329_0 := (HB.out.cell (World.block_lt_of_cell? w _ hx329_0)).trans hx329_0
           have HR329_0 := Aside0.mk hi329_0
           have HC329_0 := Aside0.mk hl329_0
           clear hi329_0 hl329_0
           replace p329 := eq_true p329
           replace q329 := eq_true q329
           refine start_ (n := 8) (S := fun w' => w'.cell? ⟨gb328, 0, none⟩ = some (.int .i64 x329000_2) ∧ w'.cell? ⟨gb328, 1, none⟩ = some (.int .i64 x329001_2) ∧ w'.cell? (ad329.add (x10_2).toNat) = some (.slice A329_0 (rd_L7 l0 x10_2).length c329_0)) (ds := []) #[false, false, false, false, false, false, false, false] (by kernel_rfl) rfl rfl ⟨zy BK328 0, zy BK328 1, ((HB.out.cell (World.block_lt_of_cell? w _ hw329_0)).trans hw329_0)⟩ (fun hHeld => ?_); refine with_tabW agonicref05_Follow.tab17 agonicref05_Follow.bits17 (fun HT_ HW_ => ?_)
           generalize wr.drew = w34 at BK319 BK327 BK328 HB HR329_0 hx329_0 hHeld ⊢
           refine pq HT_ 0 48 8 1 ?_
           refine pq HT_ 1 49 8 3 ?_
           refine pq HT_ 2 50 8 7 ?_
           refine take_ (i := 3) (N := some 51) (v := ?_) (a' := ?_) #[true, true, true, true, false, false, false, false] rfl rfl (take_ofW HT_.out HW_.out (by kernel_rfl)) (fun _ _ _ h => h) (Or.inl ⟨by rfl, ?_⟩) hHeld ?_ ?_
           rotate_left
           ·rintro w' ⟨s0, s1, s2⟩
            go_simp
            with_reducible rfl
           rotate_left
           ·simp only [Act.put, List.setIfInBounds_toArray, List.set_cons_zero, List.set_cons_succ, i64_w, i32_w]
            rfl
           refine take_ (i := 4) (N := some 52) (v := ?_) (a' := ?_) #[true, true, true, true, true, false, false, false] rfl rfl (take_ofW HT_.out HW_.out (by kernel_rfl)) (fun _ _ _ h => h) (Or.inl ⟨by rfl, ?_⟩) hHeld ?_ ?_
           rotate_left
           ·rintro w' ⟨s0, s1, s2⟩
            go_simp
            with_reducible rfl
           rotate_left
           ·simp only [Act.put, List.setIfInBounds_toArray, List.set_cons_zero, List.set_cons_succ, i64_w, i32_w]
            rfl
           refine join_ (σ := Nat) 1 #[true, true, true, true, true, true, true, false] (fun s_ => [(53, .agg #[.int .i64 t330, .int .i64 t331]), (11, .pointer (some ⟨s_, 0, none⟩))]) (fun s_ w' => (w'.cell? ⟨gb328, 0, none⟩ = some (.int .i64 x329000_2) ∧ w'.cell? ⟨gb328, 1, none⟩ = some (.int .i64 x329001_2) ∧ w'.cell? (ad329.add (x10_2).toNat) = some (.slice A329_0 (rd_L7 l0 x10_2).length c329_0)) ∧ (w'.heap[gb319]? = some (.cells #[.int .i64 x320000_1, .int .i64 x320001_1] 29 (0, 0))) ∧ (w'.heap[gb327]? = some (.cells #[.int .i64 x328000_2, .int .i64 x328001_2] 29 (0, 0))) ∧ (w'.heap[gb328]? = some (.cells #[.int .i64 x329000_2, .int .i64 x329001_2] 29 (0, 0))) ∧ (w'.heap[s_]? = some (.cells #[.int .i64 0, .int .i64 0] 29 (0, 0))) ∧ (w.heap.size ≤ s_) ∧ (w.heap.size ≤ s_) ∧ (gb319 ≠ s_) ∧ (s_ ≠ gb319) ∧ (gb327 ≠ s_) ∧ (s_ ≠ gb327) ∧ (gb328 ≠ s_) ∧ (s_ ≠ gb328) ∧ (Below w.heap.size w w')) ?_ ?_
           rotate_left
           ·intro hCont
            refine two_ (i := 5) (j := 6) (Ni := some 53) (Nj := some 11) #[true, true, true, true, true, true, false, false] #[true, true, true, true, true, false, true, false] rfl rfl rfl rfl (two_of HT_.out (by kernel_rfl)) (by decide) (by decide) (fun K hK => ?_) (fun K hK => ?_)
            ·skip
             refine goes_ Try.func57 (by kernel_rfl) rfl #[.slice A329_0 (rd_L7 l0 x10_2).length c329_0, .agg #[.int .i64 x329000_2, .int .i64 x329001_2]] (by rfl) rfl rfl zs ?_
             with_reducible refine (agonicref05_deviation.calls k2 _ _ (rd_L7 l0 x10_2) x329000_2 x329001_2 t330 t331 _ ?side1 ?side2 A30.out).mono ?_
             (case side1 => exact zc (Kd.C_below HR329_0.out HB.out))
             (case side2 => exact HC329_0.out)
             rintro e w35 ⟨rfl, hb⟩
             refine ⟨_, rfl, ?_⟩
             replace BK319 := zk BK319 hb
             replace BK327 := zk BK327 hb
             replace BK328 := zk BK328 hb
             replace HB := zd hb
             (try clear hb)
             (try clear hb2)
             (try clear hk)
             (try clear hi)
             refine hK.out _ _ ⟨zy BK328 0, zy BK328 1, ((HB.out.cell (World.block_lt_of_cell? w _ hw329_0)).trans hw329_0)⟩ (fun hHeld => ?_)
             clear hK K
             refine norm_ (a' := ?_) ?_ ?_
             rotate_left
             ·show Act.put _ (some 53) _ = _
              simp only [Act.put, List.setIfInBounds_toArray, List.set_cons_zero, List.set_cons_succ, i64_w, i32_w]
              rfl
             refine one_ (i := 6) (N := some 11) #[true, true, true, true, true, true, true, false] rfl rfl (one_of HT_.out (by kernel_rfl)) (by decide) (fun K hK => ?_)
             refine box_step ?hg (N := 11) ?hd (cs := #[.int .i64 0, .int .i64 0]) (t := 29) ?hr ?_; (case hd => rfl); (case hg => rfl); (case hr => first | (go_simp; done) | (go_simp; rfl))
             intro gb332 hg w36 hbox hb
             have BK332 := Aside0.mk (hbox)
             have GW332 := zG w hg
             have GE332 := zG w hg
             replace HB := zd hb
             have NB319_332 := zN BK319 hg
             have NB332_319 := zM BK319 hg
             replace BK319 := zk BK319 hb
             have NB327_332 := zN BK327 hg
             have NB332_327 := zM BK327 hg
             replace BK327 := zk BK327 hb
             have NB328_332 := zN BK328 hg
             have NB332_328 := zM BK328 hg
             replace BK328 := zk BK328 hb
             clear hb hbox hg
             refine hK.out _ _ ⟨zy BK328 0, zy BK328 1, ((HB.out.cell (World.block_lt_of_cell? w _ hw329_0)).trans hw329_0)⟩ (fun hHeld => ?_)
             clear hK K
             refine norm_ (a' := ?_) ?_ ?_
             rotate_left
             ·show Act.put _ (some 11) _ = _
              simp only [Act.put, List.setIfInBounds_toArray, List.set_cons_zero, List.set_cons_succ, i64_w, i32_w]
              rfl
             exact norm_ (by simp only [putAll, Act.put, List.setIfInBounds_toArray, List.set_cons_zero, List.set_cons_succ]) (hCont (gb332) _ ⟨hHeld, (zb BK319), (zb BK327), (zb BK328), (zb BK332), GW332.out, GE332.out, NB319_332.out, NB332_319.out, NB327_332.out, NB332_327.out, NB328_332.out, NB332_328.out, zh⟩)
            ·skip
             refine box_step ?hg (N := 11) ?hd (cs := #[.int .i64 0, .int .i64 0]) (t := 29) ?hr ?_; (case hd => rfl); (case hg => rfl); (case hr => first | (go_simp; done) | (go_simp; rfl))
             intro gb332 hg w35 hbox hb
             have BK332 := Aside0.mk (hbox)
             have GW332 := zG w hg
             have GE332 := zG w hg
             replace HB := zd hb
             have NB319_332 := zN BK319 hg
             have NB332_319 := zM BK319 hg
             replace BK319 := zk BK319 hb
             have NB327_332 := zN BK327 hg
             have NB332_327 := zM BK327 hg
             replace BK327 := zk BK327 hb
             have NB328_332 := zN BK328 hg
             have NB332_328 := zM BK328 hg
             replace BK328 := zk BK328 hb
             clear hb hbox hg
             refine hK.out _ _ ⟨zy BK328 0, zy BK328 1, ((HB.out.cell (World.block_lt_of_cell? w _ hw329_0)).trans hw329_0)⟩ (fun hHeld => ?_)
             clear hK K
             refine norm_ (a' := ?_) ?_ ?_
             rotate_left
             ·show Act.put _ (some 11) _ = _
              simp only [Act.put, List.setIfInBounds_toArray, List.set_cons_zero, List.set_cons_succ, i64_w, i32_w]
              rfl
             refine one_ (i := 5) (N := some 53) #[true, true, true, true, true, true, true, false] rfl rfl (one_of HT_.out (by kernel_rfl)) (by decide) (fun K hK => ?_)
             refine goes_ Try.func57 (by kernel_rfl) rfl #[.slice A329_0 (rd_L7 l0 x10_2).length c329_0, .agg #[.int .i64 x329000_2, .int .i64 x329001_2]] (by rfl) rfl rfl zs ?_
             with_reducible refine (agonicref05_deviation.calls k2 _ _ (rd_L7 l0 x10_2) x329000_2 x329001_2 t330 t331 _ ?side1 ?side2 A30.out).mono ?_
             (case side1 => exact zc (Kd.C_below HR329_0.out HB.out))
             (case side2 => exact HC329_0.out)
             rintro e w36 ⟨rfl, hb⟩
             refine ⟨_, rfl, ?_⟩
             replace BK319 := zk BK319 hb
             replace BK327 := zk BK327 hb
             replace BK328 := zk BK328 hb
             replace BK332 := zk BK332 hb
             replace HB := zd hb
             (try clear hb)
             (try clear hb2)
             (try clear hk)
             (try clear hi)
             refine hK.out _ _ ⟨zy BK328 0, zy BK328 1, ((HB.out.cell (World.block_lt_of_cell? w _ hw329_0)).trans hw329_0)⟩ (fun hHeld => ?_)
             clear hK K
             refine norm_ (a' := ?_) ?_ ?_
             rotate_left
             ·show Act.put _ (some 53) _ = _
              simp only [Act.put, List.setIfInBounds_toArray, List.set_cons_zero, List.set_cons_succ, i64_w, i32_w]
              rfl
             exact norm_ (by simp only [putAll, Act.put, List.setIfInBounds_toArray, List.set_cons_zero, List.set_cons_succ]) (hCont (gb332) _ ⟨hHeld, (zb BK319), (zb BK327), (zb BK328), (zb BK332), GW332.out, GE332.out, NB319_332.out, NB332_319.out, NB327_332.out, NB332_327.out, NB328_332.out, NB332_328.out, zh⟩)
           rintro gb332 w37 ⟨hS_, h0_, h1_, h2_, h3_, h4_, h5_, h6_, h7_, h8_, h9_, h10_, h11_, h12_⟩
           have n0_ : Aside0 (w37.heap[gb319]? = some (.cells #[.int .i64 x320000_1, .int .i64 x320001_1] 29 (0, 0))) := ⟨h0_⟩
           have n1_ : Aside0 (w37.heap[gb327]? = some (.cells #[.int .i64 x328000_2, .int .i64 x328001_2] 29 (0, 0))) := ⟨h1_⟩
           have n2_ : Aside0 (w37.heap[gb328]? = some (.cells #[.int .i64 x329000_2, .int .i64 x329001_2] 29 (0, 0))) := ⟨h2_⟩
           have n3_ : Aside0 (w37.heap[gb332]? = some (.cells #[.int .i64 0, .int .i64 0] 29 (0, 0))) := ⟨h3_⟩
           have n4_ : Aside0 (w.heap.size ≤ gb332) := ⟨h4_⟩
           have n5_ : Aside0 (w.heap.size ≤ gb332) := ⟨h5_⟩
           have n6_ : Aside0 (gb319 ≠ gb332) := ⟨h6_⟩
           have n7_ : Aside0 (gb332 ≠ gb319) := ⟨h7_⟩
           have n8_ : Aside0 (gb327 ≠ gb332) := ⟨h8_⟩
           have n9_ : Aside0 (gb332 ≠ gb327) := ⟨h9_⟩
           have n10_ : Aside0 (gb328 ≠ gb332) := ⟨h10_⟩
           have n11_ : Aside0 (gb332 ≠ gb328) := ⟨h11_⟩
           have n12_ : Aside0 (Below w.heap.size w w37) := ⟨h12_⟩
           clear BK319
           clear BK327
           clear BK328
           clear HB
           clear h0_ h1_ h2_ h3_ h4_ h5_ h6_ h7_ h8_ h9_ h10_ h11_ h12_
           have BK319 := n0_
           have BK327 := n1_
           have BK328 := n2_
           have BK332 := n3_
           have GW332 := n4_
           have GE332 := n5_
           have NB319_332 := n6_
           have NB332_319 := n7_
           have NB327_332 := n8_
           have NB332_327 := n9_
           have NB328_332 := n10_
           have NB332_328 := n11_
           have HB := n12_
           clear n0_ n1_ n2_ n3_ n4_ n5_ n6_ n7_ n8_ n9_ n10_ n11_ n12_
           have hHeld : w37.cell? ⟨gb328, 0, none⟩ = some (.int .i64 x329000_2) ∧ w37.cell? ⟨gb328, 1, none⟩ = some (.int .i64 x329001_2) ∧ w37.cell? (ad329.add (x10_2).toNat) = some (.slice A329_0 (rd_L7 l0 x10_2).length c329_0) := hS_
           refine norm_ (a' := ?_) ?_ ?_
           rotate_left
           ·simp only [putAll, Act.put, List.setIfInBounds_toArray, List.set_cons_zero, List.set_cons_succ]
            rfl
           refine one_ (i := 7) (N := none) #[true, true, true, true, true, true, true, true] rfl rfl (one_of HT_.out (by kernel_rfl)) (by decide) (fun K hK => ?_)
           have hs38 : w37.cell? ⟨gb332, 0, none⟩ = some (.int .i64 0) := zy BK332 0
           have hfs38 := blk_frozen BK332.out 0
           have hns38_0 := NB319_332.out
           have hns38_1 := NB327_332.out
           have hns38_2 := NB328_332.out
           have hms38_0 := NB332_319.out
           have hms38_1 := NB332_327.out
           have hms38_2 := NB332_328.out
           have hs39 : w37.cell? ⟨gb332, 1, none⟩ = some (.int .i64 0) := zy BK332 1
           have hfs39 := blk_frozen BK332.out 1
           have hns39_0 := NB319_332.out
           have hns39_1 := NB327_332.out
           have hns39_2 := NB328_332.out
           have hms39_0 := NB332_319.out
           have hms39_1 := NB332_327.out
           have hms39_2 := NB332_328.out
           refine skip_ (w1 := ?_) (by rfl) rfl ?_ ?_
           rotate_left
           ·go_simp
            rfl
           refine hK.out _ _ ⟨((cell_far (p := ⟨gb332, _, none⟩) NB328_332.out _).trans (((cell_far (p := ⟨gb332, _, none⟩) NB328_332.out _).trans (hHeld.1)))), ((cell_far (p := ⟨gb332, _, none⟩) NB328_332.out _).trans (((cell_far (p := ⟨gb332, _, none⟩) NB328_332.out _).trans (hHeld.2.1)))), ((cell_far (p := ⟨gb332, _, none⟩) (by first | exact Nat.ne_of_lt (Nat.lt_of_lt_of_le (zv hw329_0) GW332.out) | (rw [add_block]; exact Nat.ne_of_lt (Nat.lt_of_lt_of_le (zv hw329_0) GW332.out)) | (show (Addr.add _ _).block ≠ _; rw [add_block]; exact Nat.ne_of_lt (Nat.lt_of_lt_of_le (zv hw329_0) GW332.out)) | (dsimp only; exact Nat.ne_of_lt (Nat.lt_of_lt_of_le (zv hw329_0) GW332.out))) _).trans (((cell_far (p := ⟨gb332, _, none⟩) (by first | exact Nat.ne_of_lt (Nat.lt_of_lt_of_le (zv hw329_0) GW332.out) | (rw [add_block]; exact Nat.ne_of_lt (Nat.lt_of_lt_of_le (zv hw329_0) GW332.out)) | (show (Addr.add _ _).block ≠ _; rw [add_block]; exact Nat.ne_of_lt (Nat.lt_of_lt_of_le (zv hw329_0) GW332.out)) | (dsimp only; exact Nat.ne_of_lt (Nat.lt_of_lt_of_le (zv hw329_0) GW332.out))) _).trans (hHeld.2.2))))⟩ (fun hHeld => ?_)
           clear hK K
           refine done_ (done_of HT_.out (by kernel_rfl)) ?_
           try go_wp2
           have n0_ : Aside0 (((w37.setCell ⟨gb332, 0, none⟩ (.int .i64 t330)).setCell ⟨gb332, 1, none⟩ (.int .i64 t331)).heap[gb319]? = some (.cells #[.int .i64 x320000_1, .int .i64 x320001_1] 29 (0, 0))) := ⟨by refine zm ?_; refine blk_far ?_ NB319_332.out _; refine zm ?_; refine blk_far ?_ NB319_332.out _; refine zm ?_; exact BK319.out⟩
           have n1_ : Aside0 (((w37.setCell ⟨gb332, 0, none⟩ (.int .i64 t330)).setCell ⟨gb332, 1, none⟩ (.int .i64 t331)).heap[gb327]? = some (.cells #[.int .i64 x328000_2, .int .i64 x328001_2] 29 (0, 0))) := ⟨by refine zm ?_; refine blk_far ?_ NB327_332.out _; refine zm ?_; refine blk_far ?_ NB327_332.out _; refine zm ?_; exact BK327.out⟩
           have n2_ : Aside0 (((w37.setCell ⟨gb332, 0, none⟩ (.int .i64 t330)).setCell ⟨gb332, 1, none⟩ (.int .i64 t331)).heap[gb328]? = some (.cells #[.int .i64 x329000_2, .int .i64 x329001_2] 29 (0, 0))) := ⟨by refine zm ?_; refine blk_far ?_ NB328_332.out _; refine zm ?_; refine blk_far ?_ NB328_332.out _; refine zm ?_; exact BK328.out⟩
           have n3_ : Aside0 (((w37.setCell ⟨gb332, 0, none⟩ (.int .i64 t330)).setCell ⟨gb332, 1, none⟩ (.int .i64 t331)).heap[gb332]? = some (.cells #[.int .i64 t330, .int .i64 t331] 29 (0, 0))) := ⟨by refine zm ?_; refine blk_put (cs := #[.int .i64 t330, .int .i64 0]) ?_ 1 _ rfl; refine zm ?_; refine blk_put (cs := #[.int .i64 0, .int .i64 0]) ?_ 0 _ rfl; refine zm ?_; exact BK332.out⟩
           have n4_ : Aside0 (Below w.heap.size w ((w37.setCell ⟨gb332, 0, none⟩ (.int .i64 t330)).setCell ⟨gb332, 1, none⟩ (.int .i64 t331))) := ⟨zh⟩
           (try clear BK319)
           (try clear BK327)
           (try clear BK328)
           (try clear BK332)
           (try clear HB)
           generalize ((w37.setCell ⟨gb332, 0, none⟩ (.int .i64 t330)).setCell ⟨gb332, 1, none⟩ (.int .i64 t331)) = w40 at n0_ n1_ n2_ n3_ n4_ ⊢
           have BK319 := n0_
           have BK327 := n1_
           have BK328 := n2_
           have BK332 := n3_
           have HB := n4_
           clear n0_ n1_ n2_ n3_ n4_
           replace BK319 := Aside0.mk (blk_drew BK319.out)
           replace BK327 := Aside0.mk (blk_drew BK327.out)
           replace BK328 := Aside0.mk (blk_drew BK328.out)
           replace BK332 := Aside0.mk (blk_drew BK332.out)
           replace HB := Aside0.mk (below_drew1 HB.out)
           refine start_ (n := 9) (S := fun w' => w'.cell? ⟨gb327, 0, none⟩ = some (.int .i64 x328000_2) ∧ w'.cell? ⟨gb327, 1, none⟩ = some (.int .i64 x328001_2) ∧ w'.cell? ⟨gb332, 0, none⟩ = some (.int .i64 t330) ∧ w'.cell? ⟨gb332, 1, none⟩ = some (.int .i64 t331) ∧ w'.cell? ⟨gb328, 0, none⟩ = some (.int .i64 x329000_2) ∧ w'.cell? ⟨gb328, 1, none⟩ = some (.int .i64 x329001_2)) (ds := [7, 8]) #[false, false, false, false, false, false, false, false, false] (by kernel_rfl) rfl rfl ⟨zy BK327 0, zy BK327 1, zy BK332 0, zy BK332 1, zy BK328 0, zy BK328 1⟩ (fun hHeld => ?_); refine with_tabW agonicref05_Follow.tab18 agonicref05_Follow.bits18 (fun HT_ HW_ => ?_)
           generalize w40.drew = w41 at BK319 BK327 BK328 BK332 HB hHeld ⊢
           refine take_ (i := 0) (N := some 54) (v := ?_) (a' := ?_) #[true, false, false, false, false, false, false, false, false] rfl rfl (take_ofW HT_.out HW_.out (by kernel_rfl)) (fun _ _ _ h => h) (Or.inl ⟨by rfl, ?_⟩) hHeld ?_ ?_
           rotate_left
           ·rintro w' ⟨s0, s1, s2, s3, s4, s5⟩
            go_simp
            with_reducible rfl
           rotate_left
           ·simp only [Act.put, List.setIfInBounds_toArray, List.set_cons_zero, List.set_cons_succ, i64_w, i32_w]
            rfl
           refine take_ (i := 1) (N := some 55) (v := ?_) (a' := ?_) #[true, true, false, false, false, false, false, false, false] rfl rfl (take_ofW HT_.out HW_.out (by kernel_rfl)) (fun _ _ _ h => h) (Or.inl ⟨by rfl, ?_⟩) hHeld ?_ ?_
           rotate_left
           ·rintro w' ⟨s0, s1, s2, s3, s4, s5⟩
            go_simp
            with_reducible rfl
           rotate_left
           ·simp only [Act.put, List.setIfInBounds_toArray, List.set_cons_zero, List.set_cons_succ, i64_w, i32_w]
            rfl
           refine take_ (i := 3) (N := some 57) (v := ?_) (a' := ?_) #[true, true, false, true, false, false, false, false, false] rfl rfl (take_ofW HT_.out HW_.out (by kernel_rfl)) (fun _ _ _ h => h) (Or.inl ⟨by rfl, ?_⟩) hHeld ?_ ?_
           rotate_left
           ·rintro w' ⟨s0, s1, s2, s3, s4, s5⟩
            go_simp
            with_reducible rfl
           rotate_left
           ·simp only [Act.put, List.setIfInBounds_toArray, List.set_cons_zero, List.set_cons_succ, i64_w, i32_w]
            rfl
           refine take_ (i := 4) (N := some 58) (v := ?_) (a' := ?_) #[true, true, false, true, true, false, false, false, false] rfl rfl (take_ofW HT_.out HW_.out (by kernel_rfl)) (fun _ _ _ h => h) (Or.inl ⟨by rfl, ?_⟩) hHeld ?_ ?_
           rotate_left
           ·rintro w' ⟨s0, s1, s2, s3, s4, s5⟩
            go_simp
            with_reducible rfl
           rotate_left
           ·simp only [Act.put, List.setIfInBounds_toArray, List.set_cons_zero, List.set_cons_succ, i64_w, i32_w]
            rfl
           refine one_ (i := 2) (N := some 56) #[true, true, true, true, true, false, false, false, false] rfl rfl (one_of HT_.out (by kernel_rfl)) (by decide) (fun K hK => ?_)
           refine goes_ Try.func69 (by kernel_rfl) rfl #[.agg #[.int .i64 x328000_2, .int .i64 x328001_2], .agg #[.int .i64 t330, .int .i64 t331]] (by rfl) rfl rfl zs ?_
           with_reducible refine (agonicref05_Plus.calls k2 x328000_2 x328001_2 t330 t331 t333 t334 _ A31.out).mono ?_
           rintro e w42 ⟨rfl, hb⟩
           refine ⟨_, rfl, ?_⟩
           replace BK319 := zk BK319 hb
           replace BK327 := zk BK327 hb
           replace BK328 := zk BK328 hb
           replace BK332 := zk BK332 hb
           replace HB := zd hb
           (try clear hb)
           (try clear hb2)
           (try clear hk)
           (try clear hi)
           refine hK.out _ _ ⟨zy BK327 0, zy BK327 1, zy BK332 0, zy BK332 1, zy BK328 0, zy BK328 1⟩ (fun hHeld => ?_)
           clear hK K
           refine norm_ (a' := ?_) ?_ ?_
           rotate_left
           ·show Act.put _ (some 56) _ = _
            simp only [Act.put, List.setIfInBounds_toArray, List.set_cons_zero, List.set_cons_succ, i64_w, i32_w]
            rfl
           refine one_ (i := 5) (N := some 59) #[true, true, true, true, true, true, false, false, false] rfl rfl (one_of HT_.out (by kernel_rfl)) (by decide) (fun K hK => ?_)
           refine goes_ Try.func69 (by kernel_rfl) rfl #[.agg #[.int .i64 x329000_2, .int .i64 x329001_2], .agg #[.int .i64 t330, .int .i64 t331]] (by rfl) rfl rfl zs ?_
           with_reducible refine (agonicref05_Plus.calls k2 x329000_2 x329001_2 t330 t331 t335 t336 _ A32.out).mono ?_
           rintro e w43 ⟨rfl, hb⟩
           refine ⟨_, rfl, ?_⟩
           replace BK319 := zk BK319 hb
           replace BK327 := zk BK327 hb
           replace BK328 := zk BK328 hb
           replace BK332 := zk BK332 hb
           replace HB := zd hb
           (try clear hb)
           (try clear hb2)
           (try clear hk)
           (try clear hi)
           refine hK.out _ _ ⟨zy BK327 0, zy BK327 1, zy BK332 0, zy BK332 1, zy BK328 0, zy BK328 1⟩ (fun hHeld => ?_)
           clear hK K
           refine norm_ (a' := ?_) ?_ ?_
           rotate_left
           ·show Act.put _ (some 59) _ = _
            simp only [Act.put, List.setIfInBounds_toArray, List.set_cons_zero, List.set_cons_succ, i64_w, i32_w]
            rfl
           refine one_ (i := 6) (N := some 60) #[true, true, true, true, true, true, true, false, false] rfl rfl (one_of HT_.out (by kernel_rfl)) (by decide) (fun K hK => ?_)
           refine goes_ Try.func68 (by kernel_rfl) rfl #[.agg #[.int .i64 t335, .int .i64 t336]] (by rfl) rfl rfl zs ?_
           with_reducible refine (agonicref05_around.calls k2 t335 t336 t337 t338 _ A33.out).mono ?_
           rintro e w44 ⟨rfl, hb⟩
           refine ⟨_, rfl, ?_⟩
           replace BK319 := zk BK319 hb
           replace BK327 := zk BK327 hb
           replace BK328 := zk BK328 hb
           replace BK332 := zk BK332 hb
           replace HB := zd hb
           (try clear hb)
           (try clear hb2)
           (try clear hk)
           (try clear hi)
           refine hK.out _ _ ⟨zy BK327 0, zy BK327 1, zy BK332 0, zy BK332 1, zy BK328 0, zy BK328 1⟩ (fun hHeld => ?_)
           clear hK K
           refine norm_ (a' := ?_) ?_ ?_
           rotate_left
           ·show Act.put _ (some 60) _ = _
            simp only [Act.put, List.setIfInBounds_toArray, List.set_cons_zero, List.set_cons_succ, i64_w, i32_w]
            rfl
           refine last_ (i := 7) (N := none) #[true, true, true, true, true, true, true, true, false] rfl rfl (one_of HT_.out (by kernel_rfl)) (by decide) (fun K hK => ?_)
           have hs45 : w44.cell? ⟨gb327, 0, none⟩ = some (.int .i64 x328000_2) := zy BK327 0
           have hfs45 := blk_frozen BK327.out 0
           have hns45_0 := NB319_327.out
           have hns45_2 := NB328_327.out
           have hns45_3 := NB332_327.out
           have hms45_0 := NB327_319.out
           have hms45_2 := NB327_328.out
           have hms45_3 := NB327_332.out
           have hs46 : w44.cell? ⟨gb327, 1, none⟩ = some (.int .i64 x328001_2) := zy BK327 1
           have hfs46 := blk_frozen BK327.out 1
           have hns46_0 := NB319_327.out
           have hns46_2 := NB328_327.out
           have hns46_3 := NB332_327.out
           have hms46_0 := NB327_319.out
           have hms46_2 := NB327_328.out
           have hms46_3 := NB327_332.out
           refine skip_ (w1 := ?_) (by rfl) rfl ?_ ?_
           rotate_left
           ·go_simp
            rfl
           refine hK.out _ _ ?_
           clear hK K
           refine last_ (i := 8) (N := none) #[true, true, true, true, true, true, true, true, true] rfl rfl (one_of HT_.out (by kernel_rfl)) (by decide) (fun K hK => ?_)
           have hs47 : w44.cell? ⟨gb328, 0, none⟩ = some (.int .i64 x329000_2) := zy BK328 0
           have hfs47 := blk_frozen BK328.out 0
           have hns47_0 := NB319_328.out
           have hns47_1 := NB327_328.out
           have hns47_3 := NB332_328.out
           have hms47_0 := NB328_319.out
           have hms47_1 := NB328_327.out
           have hms47_3 := NB328_332.out
           have hs48 : w44.cell? ⟨gb328, 1, none⟩ = some (.int .i64 x329001_2) := zy BK328 1
           have hfs48 := blk_frozen BK328.out 1
           have hns48_0 := NB319_328.out
           have hns48_1 := NB327_328.out
           have hns48_3 := NB332_328.out
           have hms48_0 := NB328_319.out
           have hms48_1 := NB328_327.out
           have hms48_3 := NB328_332.out
           refine skip_ (w1 := ?_) (by rfl) rfl ?_ ?_
           rotate_left
           ·go_simp
            rfl
           refine hK.out _ _ ?_
           clear hK K
           refine done_ (done_of HT_.out (by kernel_rfl)) ?_
           try go_wp2
           go_roundg k2
           case measure => have := HK1.out; have := HK2.out; omega
           case rel => exact ⟨(wrap64 (x10_2 + 1)), (t333), (t334), (t337), (t338), (by first | rfl | (simp; done) | (simp [*]; done)), H', ⟨by have := HK1.out; have := HK2.out; omega⟩, ⟨by refine zm ?_; refine blk_far ?_ NB319_328.out _; refine zm ?_; refine blk_far ?_ NB319_328.out _; refine zm ?_; refine blk_far ?_ NB319_327.out _; refine zm ?_; refine blk_far ?_ NB319_327.out _; refine zm ?_; exact BK319.out⟩, ⟨by refine zm ?_; refine blk_far ?_ NB327_328.out _; refine zm ?_; refine blk_far ?_ NB327_328.out _; refine zm ?_; refine blk_put (cs := #[.int .i64 t333, .int .i64 x328001_2]) ?_ 1 _ rfl; refine zm ?_; refine blk_put (cs := #[.int .i64 x328000_2, .int .i64 x328001_2]) ?_ 0 _ rfl; refine zm ?_; exact BK327.out⟩, ⟨by refine zm ?_; refine blk_put (cs := #[.int .i64 t337, .int .i64 x329001_2]) ?_ 1 _ rfl; refine zm ?_; refine blk_put (cs := #[.int .i64 x329000_2, .int .i64 x329001_2]) ?_ 0 _ rfl; refine zm ?_; refine blk_far ?_ NB328_327.out _; refine zm ?_; refine blk_far ?_ NB328_327.out _; refine zm ?_; exact BK328.out⟩, ⟨zh⟩⟩
          ·rw [if_neg c29] at H
           exact absurd H (by simp)
         ·rw [if_neg c28] at H
          have c28b0 : decide (x10_2 < (l0.length : Int)) = false := decide_eq_false c28
          clear c28
          simp only [Option.some.injEq, Prod.mk.injEq] at H
          obtain ⟨rfl, rfl, rfl⟩ := H
          have hnb49 := NB327_319.out
          have hnc49 := NB319_327.out
          have hnb50 := NB327_328.out
          have hnc50 := NB328_327.out
          have hcz51_0 : wr.cell? ⟨gb327, 0, none⟩ = some (.int .i64 x328000_2) := zy BK327 0
          have hcz51_1 : wr.cell? ⟨gb327, 1, none⟩ = some (.int .i64 x328001_2) := zy BK327 1
          have hfz51_0 := blk_frozen BK327.out 0
          have hfz51_1 := blk_frozen BK327.out 1
          have hnb52 := NB319_328.out
          have hnc52 := NB328_319.out
          have hcz53_0 : wr.cell? ⟨gb319, 0, none⟩ = some (.int .i64 x320000_1) := zy BK319 0
          have hcz53_1 : wr.cell? ⟨gb319, 1, none⟩ = some (.int .i64 x320001_1) := zy BK319 1
          have hfz53_0 := blk_frozen BK319.out 0
          have hfz53_1 := blk_frozen BK319.out 1
          go_wp2
          refine bodyPost_ret (results_ct rfl _ _ gb319 29 #[.int .i64 x328000_2, .int .i64 x328001_2] (0, 0) _ rfl (by refine zm ?_; refine blk_put (cs := #[.int .i64 x328000_2, .int .i64 x320001_1]) ?_ 1 _ rfl; refine zm ?_; refine blk_put (cs := #[.int .i64 x320000_1, .int .i64 x320001_1]) ?_ 0 _ rfl; refine zm ?_; exact BK319.out) Try.underlying29 rfl (by kernel_rfl)) rfl ?_
          exact ⟨ze, zh⟩
      ·replace c16 := Bool.eq_false_iff.mpr c16
       subst c16
       rw [if_neg (show ¬ (false = true) by decide)] at H
       simp only [Option.some.injEq, Prod.mk.injEq] at H
       obtain ⟨rfl, rfl, rfl⟩ := H
       go_wp2_with (first | ((with_reducible refine gC 56 rfl ?_); refine gL 36 Try.func56 #[.int .i64 a1] ?_; (with_reducible refine (agonicref05_heading.calls a1 false _ A15.out).mono ?_); rintro e w' ⟨rfl, ⟨nd, rfl⟩⟩; refine ⟨_, rfl, ?_⟩; (try (rw [drewN_self wr]; generalize hq_ : World.drewN wr _ = wr; have n0_ : Aside0 (wr.heap[gb319]? = some (.cells #[.int .i64 x320000_1, .int .i64 x320001_1] 29 (0, 0))) := ⟨by rw [← hq_]; exact (zb BK319)⟩; have n1_ : Aside0 (Below w.heap.size w wr) := ⟨by rw [← hq_]; exact zh⟩; clear BK319 HB hq_; have BK319 := n0_; have HB := n1_; clear n0_ n1_)); have hcz54_0 : wr.cell? ⟨gb319, 0, none⟩ = some (.int .i64 x320000_1) := zy BK319 0; have hcz54_1 : wr.cell? ⟨gb319, 1, none⟩ = some (.int .i64 x320001_1) := zy BK319 1; have hfz54_0 := blk_frozen BK319.out 0; have hfz54_1 := blk_frozen BK319.out 1))
       refine bodyPost_ret (results_ct rfl _ _ gb319 29 #[.int .i64 0, .int .i64 0] (0, 0) _ rfl (by refine zm ?_; refine blk_put (cs := #[.int .i64 0, .int .i64 x320001_1]) ?_ 1 _ rfl; refine zm ?_; refine blk_put (cs := #[.int .i64 x320000_1, .int .i64 x320001_1]) ?_ 0 _ rfl; refine zm ?_; exact BK319.out) Try.underlying29 rfl (by kernel_rfl)) rfl ?_
       exact ⟨ze, zh⟩
end Go.Proofs.Ytccjefoejjnccaa.C
