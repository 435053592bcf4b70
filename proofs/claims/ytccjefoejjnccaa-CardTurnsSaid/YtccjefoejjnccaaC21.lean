-- Written by a program of this session (wip/tools/myprint.py, over the kit's print).
import Derived.Test.YtccjefoejjnccaaC0
import Derived.Test.YtccjefoejjnccaaC3
import Derived.Test.YtccjefoejjnccaaC4
import Derived.Test.YtccjefoejjnccaaC5
import Derived.Test.YtccjefoejjnccaaH5
import Derived.Test.YtccjefoejjnccaaH12
import Derived.Test.YtccjefoejjnccaaH2
import Derived.Test.YtccjefoejjnccaaH3
import Derived.Test.YtccjefoejjnccaaH9
import Derived.Test.YtccjefoejjnccaaZ
namespace Go.Proofs.Ytccjefoejjnccaa.C
open Go.Proofs.Ytccjefoejjnccaa.H
open Go.RowKit Go.Proofs.YtccjefoejjnccaaW.PrintWords Go.Proofs.YtccjefoejjnccaaW.PrintLast Go.Proofs.YtccjefoejjnccaaW.PrintMore
attribute [local go_sem] max2_int min2_int max_two min_two max_three min_three max_four min_four   -- for this text's walks alone
set_option linter.unusedVariables false
set_option linter.unusedSimpArgs false
def card_Deviation.f (k : Nat) (l0 : List (S55)) (a1 : Int) : Option (Int × Int × Int) := (card_Check.f k l0).bind fun t466 => (if t466 = 0 then ((card_heading.f a1).bind fun t467 => (if t467 = true then ((card_whole.f a1).bind fun bt468 => ((card_Card_deviation.f k l0 bt468.1 bt468.2).bind fun bt470 => ((card_ratio_out.f bt470.1 bt470.2).bind fun bt472 => (some (bt472.1, bt472.2, 0))))) else (some (0, 0, 1)))) else (some (0, 0, t466)))
set_option maxHeartbeats 8000000 in
set_option maxRecDepth 100000 in
theorem card_Deviation.calls (k : Nat) (A0 : Option Addr) (c0 : Nat) (l0 : List (S55)) (a1 : Int) (r1 : Int) (r2 : Int) (r3 : Int) (w : World) (hr0 : Kd.C k55 w A0 l0.length l0) (hc0 : l0.length ≤ c0) (h : card_Deviation.f k l0 a1 = some (r1, r2, r3)) :
  Calls Try.prog 16 #[.slice A0 l0.length c0, .int .i64 a1] w fun e w' => e = .returned (.tuple #[.agg #[.int .i64 r1, .int .i64 r2], .int .i64 r3]) ∧ Below w.heap.size w w' := by
 have hu29 := Try.underlying29
 have HR0 := Aside0.mk hr0
 have HC0 := Aside0.mk hc0
 clear hr0 hc0
 have HB := Aside0.mk (Below.refl w.heap.size w)
 have H : ((card_Check.f k l0).bind fun t466 => (if t466 = 0 then ((card_heading.f a1).bind fun t467 => (if t467 = true then ((card_whole.f a1).bind fun bt468 => ((card_Card_deviation.f k l0 bt468.1 bt468.2).bind fun bt470 => ((card_ratio_out.f bt470.1 bt470.2).bind fun bt472 => (some (bt472.1, bt472.2, 0))))) else (some (0, 0, 1)))) else (some (0, 0, t466)))) = some (r1, r2, r3) := h
 clear h
 replace H := zi H
 obtain ⟨t466, A30, H⟩ := H
 try dsimp only at H
 have A3 := Aside0.mk A30
 clear A30
 by_cases c4 : t466 = 0
 ·rw [if_pos c4] at H
  have c4b0 : (t466 == 0) = true := beq_iff_eq.mpr c4
  have c4b1 : (t466 != 0) = false := bne_eq_false_iff_eq.mpr c4
  clear c4
  replace H := zi H
  obtain ⟨t467, A50, H⟩ := H
  try dsimp only at H
  have A5 := Aside0.mk A50
  clear A50
  by_cases c6 : t467 = true
  ·subst c6
   rw [if_pos rfl] at H
   replace H := zi H
   obtain ⟨⟨t468, t469⟩, A70, H⟩ := H
   try dsimp only at H
   have A7 := Aside0.mk A70
   clear A70
   replace H := zi H
   obtain ⟨⟨t470, t471⟩, A80, H⟩ := H
   try dsimp only at H
   have A8 := Aside0.mk A80
   clear A80
   replace H := zi H
   obtain ⟨⟨t472, t473⟩, A90, H⟩ := H
   try dsimp only at H
   have A9 := Aside0.mk A90
   clear A90
   simp only [Option.some.injEq, Prod.mk.injEq] at H
   obtain ⟨rfl, rfl, rfl⟩ := H
   go_enter Try.func16, Try.ntmps16
   go_wp2_with (first | ((with_reducible refine gD 4 rfl ?_); refine zx 4 #[.int .i64 0, .int .i64 0] 29 ?_; intro gb465 hg w10 hbox hb; have BK465 := Aside0.mk (hbox); have GE465 := zG w hg; replace HB := zd hb; clear hb hbox hg) | ((with_reducible refine gC 21 rfl ?_); refine gL 8 Try.func21 #[.slice A0 l0.length c0] ?_; (with_reducible refine (card_Check.calls k _ _ l0 t466 _ ?side1 ?side2 A3.out).mono ?_); (case side1 => exact zc (Kd.C_below HR0.out HB.out)); (case side2 => exact HC0.out); rintro e w11 ⟨rfl, hb⟩; refine ⟨_, rfl, ?_⟩; replace BK465 := zk BK465 hb; replace HB := zd hb; (try clear hb)) | ((with_reducible refine gC 52 rfl ?_); refine gL 16 Try.func52 #[.int .i64 a1] ?_; (with_reducible refine (card_heading.calls a1 true _ A5.out).mono ?_); rintro e w' ⟨rfl, ⟨nd, rfl⟩⟩; refine ⟨_, rfl, ?_⟩; (try (rw [drewN_self w11]; generalize hq_ : World.drewN w11 _ = w11; have n0_ : Aside0 (w11.heap[gb465]? = some (.cells #[.int .i64 0, .int .i64 0] 29 (0, 0))) := ⟨by rw [← hq_]; exact (zb BK465)⟩; have n1_ : Aside0 (Below w.heap.size w w11) := ⟨by rw [← hq_]; exact zh⟩; clear BK465 HB hq_; have BK465 := n0_; have HB := n1_; clear n0_ n1_))) | ((with_reducible refine gC 54 rfl ?_); refine gL 21 Try.func54 #[.int .i64 a1] ?_; (with_reducible refine (card_whole.calls a1 t468 t469 _ A7.out).mono ?_); rintro e w12 ⟨rfl, hb⟩; refine ⟨_, rfl, ?_⟩; replace BK465 := zk BK465 hb; replace HB := zd hb; (try clear hb)) | ((with_reducible refine gC 53 rfl ?_); refine gL 22 Try.func53 #[.slice A0 l0.length c0, .agg #[.int .i64 t468, .int .i64 t469]] ?_; (with_reducible refine (card_Card_deviation.calls k _ _ l0 t468 t469 t470 t471 _ ?side1 ?side2 A8.out).mono ?_); (case side1 => exact zc (Kd.C_below HR0.out HB.out)); (case side2 => exact HC0.out); rintro e w13 ⟨rfl, hb⟩; refine ⟨_, rfl, ?_⟩; replace BK465 := zk BK465 hb; replace HB := zd hb; (try clear hb)) | ((with_reducible refine gC 55 rfl ?_); refine gL 23 Try.func55 #[.agg #[.int .i64 t470, .int .i64 t471]] ?_; (with_reducible refine (card_ratio_out.calls t470 t471 t472 t473 _ A9.out).mono ?_); rintro e w14 ⟨rfl, hb⟩; refine ⟨_, rfl, ?_⟩; replace BK465 := zk BK465 hb; replace HB := zd hb; (try clear hb); have hcz15_0 : w14.cell? ⟨gb465, 0, none⟩ = some (.int .i64 0) := zy BK465 0; have hcz15_1 : w14.cell? ⟨gb465, 1, none⟩ = some (.int .i64 0) := zy BK465 1; have hfz15_0 := blk_frozen BK465.out 0; have hfz15_1 := blk_frozen BK465.out 1))
   refine bodyPost_ret (results_ct rfl _ _ gb465 29 #[.int .i64 t472, .int .i64 t473] (0, 0) _ rfl (by refine zm ?_; refine blk_put (cs := #[.int .i64 t472, .int .i64 0]) ?_ 1 _ rfl; refine zm ?_; refine blk_put (cs := #[.int .i64 0, .int .i64 0]) ?_ 0 _ rfl; refine zm ?_; exact BK465.out) Try.underlying29 rfl (by kernel_rfl)) rfl ?_
   exact ⟨ze, zh⟩
  ·replace c6 := Bool.eq_false_iff.mpr c6
   subst c6
   rw [if_neg (show ¬ (false = true) by decide)] at H
   simp only [Option.some.injEq, Prod.mk.injEq] at H
   obtain ⟨rfl, rfl, rfl⟩ := H
   go_enter Try.func16, Try.ntmps16
   go_wp2_with (first | ((with_reducible refine gD 4 rfl ?_); refine zx 4 #[.int .i64 0, .int .i64 0] 29 ?_; intro gb465 hg w16 hbox hb; have BK465 := Aside0.mk (hbox); have GE465 := zG w hg; replace HB := zd hb; clear hb hbox hg) | ((with_reducible refine gC 21 rfl ?_); refine gL 8 Try.func21 #[.slice A0 l0.length c0] ?_; (with_reducible refine (card_Check.calls k _ _ l0 t466 _ ?side1 ?side2 A3.out).mono ?_); (case side1 => exact zc (Kd.C_below HR0.out HB.out)); (case side2 => exact HC0.out); rintro e w17 ⟨rfl, hb⟩; refine ⟨_, rfl, ?_⟩; replace BK465 := zk BK465 hb; replace HB := zd hb; (try clear hb)) | ((with_reducible refine gC 52 rfl ?_); refine gL 16 Try.func52 #[.int .i64 a1] ?_; (with_reducible refine (card_heading.calls a1 false _ A5.out).mono ?_); rintro e w' ⟨rfl, ⟨nd, rfl⟩⟩; refine ⟨_, rfl, ?_⟩; (try (rw [drewN_self w17]; generalize hq_ : World.drewN w17 _ = w17; have n0_ : Aside0 (w17.heap[gb465]? = some (.cells #[.int .i64 0, .int .i64 0] 29 (0, 0))) := ⟨by rw [← hq_]; exact (zb BK465)⟩; have n1_ : Aside0 (Below w.heap.size w w17) := ⟨by rw [← hq_]; exact zh⟩; clear BK465 HB hq_; have BK465 := n0_; have HB := n1_; clear n0_ n1_)); have hcz18_0 : w17.cell? ⟨gb465, 0, none⟩ = some (.int .i64 0) := zy BK465 0; have hcz18_1 : w17.cell? ⟨gb465, 1, none⟩ = some (.int .i64 0) := zy BK465 1; have hfz18_0 := blk_frozen BK465.out 0; have hfz18_1 := blk_frozen BK465.out 1))
   refine bodyPost_ret (results_ct rfl _ _ gb465 29 #[.int .i64 0, .int .i64 0] (0, 0) _ rfl (by refine zm ?_; refine blk_put (cs := #[.int .i64 0, .int .i64 0]) ?_ 1 _ rfl; refine zm ?_; refine blk_put (cs := #[.int .i64 0, .int .i64 0]) ?_ 0 _ rfl; refine zm ?_; exact BK465.out) Try.underlying29 rfl (by kernel_rfl)) rfl ?_
   exact ⟨ze, zh⟩
 ·rw [if_neg c4] at H
  have c4b0 : (t466 == 0) = false := beq_eq_false_iff_ne.mpr c4
  have c4b1 : (t466 != 0) = true := bne_iff_ne.mpr c4
  simp only [Option.some.injEq, Prod.mk.injEq] at H
  obtain ⟨rfl, rfl, rfl⟩ := H
  go_enter Try.func16, Try.ntmps16
  go_wp2_with (first | ((with_reducible refine gD 4 rfl ?_); refine zx 4 #[.int .i64 0, .int .i64 0] 29 ?_; intro gb465 hg w19 hbox hb; have BK465 := Aside0.mk (hbox); have GE465 := zG w hg; replace HB := zd hb; clear hb hbox hg) | ((with_reducible refine gC 21 rfl ?_); refine gL 8 Try.func21 #[.slice A0 l0.length c0] ?_; (with_reducible refine (card_Check.calls k _ _ l0 t466 _ ?side1 ?side2 A3.out).mono ?_); (case side1 => exact zc (Kd.C_below HR0.out HB.out)); (case side2 => exact HC0.out); rintro e w20 ⟨rfl, hb⟩; refine ⟨_, rfl, ?_⟩; replace BK465 := zk BK465 hb; replace HB := zd hb; (try clear hb); have hcz21_0 : w20.cell? ⟨gb465, 0, none⟩ = some (.int .i64 0) := zy BK465 0; have hcz21_1 : w20.cell? ⟨gb465, 1, none⟩ = some (.int .i64 0) := zy BK465 1; have hfz21_0 := blk_frozen BK465.out 0; have hfz21_1 := blk_frozen BK465.out 1))
  refine bodyPost_ret (results_ct rfl _ _ gb465 29 #[.int .i64 0, .int .i64 0] (0, 0) _ rfl (by refine zm ?_; refine blk_put (cs := #[.int .i64 0, .int .i64 0]) ?_ 1 _ rfl; refine zm ?_; refine blk_put (cs := #[.int .i64 0, .int .i64 0]) ?_ 0 _ rfl; refine zm ?_; exact BK465.out) Try.underlying29 rfl (by kernel_rfl)) rfl ?_
  exact ⟨ze, zh⟩
def card_Folds.f (k : Nat) (l0 : List (S55)) : Option (List Int × Int) := (card_Check.f k l0).bind fun t474 => (if t474 = 0 then ((card_Card_folds.f l0).bind fun t475 => (some (t475, 0))) else (some (([] : List Int), t474)))
set_option maxHeartbeats 8000000 in
set_option maxRecDepth 100000 in
theorem card_Folds.calls (k : Nat) (A0 : Option Addr) (c0 : Nat) (l0 : List (S55)) (r1 : List Int) (r2 : Int) (w : World) (hr0 : Kd.C k55 w A0 l0.length l0) (hc0 : l0.length ≤ c0) (h : card_Folds.f k l0 = some (r1, r2)) :
  Calls Try.prog 18 #[.slice A0 l0.length c0] w fun e w' => ∃ v0_ : Value, e = .returned (.tuple #[v0_, .int .i64 r2]) ∧ Kd.R (Kd.int .i64) 3 w' w.heap.size (fun _ => True) v0_ r1 ∧ Below w.heap.size w w' := by
 have HR0 := Aside0.mk hr0
 have HC0 := Aside0.mk hc0
 clear hr0 hc0
 have HB := Aside0.mk (Below.refl w.heap.size w)
 have H : ((card_Check.f k l0).bind fun t474 => (if t474 = 0 then ((card_Card_folds.f l0).bind fun t475 => (some (t475, 0))) else (some (([] : List Int), t474)))) = some (r1, r2) := h
 clear h
 replace H := zi H
 obtain ⟨t474, A20, H⟩ := H
 try dsimp only at H
 have A2 := Aside0.mk A20
 clear A20
 by_cases c3 : t474 = 0
 ·rw [if_pos c3] at H
  have c3b0 : (t474 == 0) = true := beq_iff_eq.mpr c3
  have c3b1 : (t474 != 0) = false := bne_eq_false_iff_eq.mpr c3
  clear c3
  replace H := zi H
  obtain ⟨t475, A40, H⟩ := H
  try dsimp only at H
  have A4 := Aside0.mk A40
  clear A40
  simp only [Option.some.injEq, Prod.mk.injEq] at H
  obtain ⟨rfl, rfl⟩ := H
  go_enter Try.func18, Try.ntmps18
  go_wp2_with (first | ((with_reducible refine gC 21 rfl ?_); refine gL 6 Try.func21 #[.slice A0 l0.length c0] ?_; (with_reducible refine (card_Check.calls k _ _ l0 t474 _ ?side1 ?side2 A2.out).mono ?_); (case side1 => exact zc HR0.out); (case side2 => exact HC0.out); rintro e w5 ⟨rfl, hb⟩; refine ⟨_, rfl, ?_⟩; replace HB := zd hb; (try clear hb)) | ((with_reducible refine gC 59 rfl ?_); refine gL 11 Try.func59 #[.slice A0 l0.length c0] ?_; (with_reducible refine (card_Card_folds.calls _ _ l0 t475 _ ?side1 ?side2 A4.out).mono ?_); (case side1 => exact zc (Kd.C_below HR0.out HB.out)); (case side2 => exact HC0.out); rintro e w6 ⟨v476, rfl, ho0, hb⟩; refine ⟨_, rfl, ?_⟩; have HO477 := Aside0.mk (Kd.R_lower ho0 (below_size zh)); replace HB := zd hb; (try clear hb); (try clear ho0)))
  go_ret2
  exact ⟨_, ze, by refine zl ?_; exact HO477.out, zh⟩
 ·rw [if_neg c3] at H
  have c3b0 : (t474 == 0) = false := beq_eq_false_iff_ne.mpr c3
  have c3b1 : (t474 != 0) = true := bne_iff_ne.mpr c3
  simp only [Option.some.injEq, Prod.mk.injEq] at H
  obtain ⟨rfl, rfl⟩ := H
  go_enter Try.func18, Try.ntmps18
  go_wp2_with (first | ((with_reducible refine gC 21 rfl ?_); refine gL 6 Try.func21 #[.slice A0 l0.length c0] ?_; (with_reducible refine (card_Check.calls k _ _ l0 t474 _ ?side1 ?side2 A2.out).mono ?_); (case side1 => exact zc HR0.out); (case side2 => exact HC0.out); rintro e w7 ⟨rfl, hb⟩; refine ⟨_, rfl, ?_⟩; replace HB := zd hb; (try clear hb)))
  go_ret2
  exact ⟨_, ze, by first | exact Kd.R_nil _ _ _ _ _ | exact Kd.N_nil _ _ _ _ _ | exact Kd.V_nil _ _ _ _ _ | exact Kd.Q_nil _ _ _ _ _ | exact Kd.S_nil _ _ _ _ _, zh⟩
def card_Courses.l0 : Nat → List (S29) → List (S101) → Int → Int → Option ((List (S29)) × Int)
 | 0, _, _, _, _ => none
 | k + 1, x9, x30, x31, x32 => if x32 < x31 then (if 0 ≤ x32 then (if x32 < (x30.length : Int) then ((card_ratio_out.f ((rd_T101 x30 x32).f0) ((rd_T101 x30 x32).f1)).bind fun bt486 => (if x9.length < 8796093022208 then (card_Courses.l0 k (x9 ++ [(⟨bt486.1, bt486.2⟩ : S29)]) x30 x31 (wrap64 (x32 + 1))) else (none))) else (none)) else (none)) else (some (x9, 0))
def card_Courses.f (k : Nat) (l0 : List (S55)) (a1 : Int) : Option ((List (S29)) × Int) := (card_Check.f k l0).bind fun t478 => (if t478 = 0 then ((card_heading.f a1).bind fun t479 => (if t479 = true then ((card_Card_courses.f k l0 a1).bind fun bt480 => (if bt480.2 = true then (card_Courses.l0 k ([] : List (S29)) bt480.1 (bt480.1.length : Int) 0) else (some (([] : List (S29)), 16)))) else (some (([] : List (S29)), 1)))) else (some (([] : List (S29)), t478)))
set_option maxHeartbeats 8000000 in
set_option maxRecDepth 100000 in
theorem card_Courses.calls (k : Nat) (A0 : Option Addr) (c0 : Nat) (l0 : List (S55)) (a1 : Int) (r1 : List (S29)) (r2 : Int) (w : World) (hr0 : Kd.C k55 w A0 l0.length l0) (hc0 : l0.length ≤ c0) (h : card_Courses.f k l0 a1 = some (r1, r2)) :
  Calls Try.prog 23 #[.slice A0 l0.length c0, .int .i64 a1] w fun e w' => ∃ v0_ : Value, e = .returned (.tuple #[v0_, .int .i64 r2]) ∧ Kd.R k29 29 w' w.heap.size (fun _ => True) v0_ r1 ∧ Below w.heap.size w w' := by
 have hu101 := Try.underlying101
 have HR0 := Aside0.mk hr0
 have HC0 := Aside0.mk hc0
 clear hr0 hc0
 have HB := Aside0.mk (Below.refl w.heap.size w)
 have H : ((card_Check.f k l0).bind fun t478 => (if t478 = 0 then ((card_heading.f a1).bind fun t479 => (if t479 = true then ((card_Card_courses.f k l0 a1).bind fun bt480 => (if bt480.2 = true then (card_Courses.l0 k ([] : List (S29)) bt480.1 (bt480.1.length : Int) 0) else (some (([] : List (S29)), 16)))) else (some (([] : List (S29)), 1)))) else (some (([] : List (S29)), t478)))) = some (r1, r2) := h
 clear h
 replace H := zi H
 obtain ⟨t478, A30, H⟩ := H
 try dsimp only at H
 have A3 := Aside0.mk A30
 clear A30
 by_cases c4 : t478 = 0
 ·rw [if_pos c4] at H
  have c4b0 : (t478 == 0) = true := beq_iff_eq.mpr c4
  have c4b1 : (t478 != 0) = false := bne_eq_false_iff_eq.mpr c4
  clear c4
  replace H := zi H
  obtain ⟨t479, A50, H⟩ := H
  try dsimp only at H
  have A5 := Aside0.mk A50
  clear A50
  by_cases c6 : t479 = true
  ·subst c6
   rw [if_pos rfl] at H
   replace H := zi H
   obtain ⟨⟨t480, t481⟩, A70, H⟩ := H
   try dsimp only at H
   have A7 := Aside0.mk A70
   clear A70
   by_cases c8 : t481 = true
   ·subst c8
    rw [if_pos rfl] at H
    have H' := Aside0.mk H
    clear H
    go_enter Try.func23, Try.ntmps23
    go_wp2_with (first | ((with_reducible refine gC 21 rfl ?_); refine gL 13 Try.func21 #[.slice A0 l0.length c0] ?_; (with_reducible refine (card_Check.calls k _ _ l0 t478 _ ?side1 ?side2 A3.out).mono ?_); (case side1 => exact zc HR0.out); (case side2 => exact HC0.out); rintro e w9 ⟨rfl, hb⟩; refine ⟨_, rfl, ?_⟩; replace HB := zd hb; (try clear hb)) | ((with_reducible refine gC 52 rfl ?_); refine gL 20 Try.func52 #[.int .i64 a1] ?_; (with_reducible refine (card_heading.calls a1 true _ A5.out).mono ?_); rintro e w' ⟨rfl, ⟨nd, rfl⟩⟩; refine ⟨_, rfl, ?_⟩) | ((with_reducible refine gC 64 rfl ?_); refine gL 25 Try.func64 #[.slice A0 l0.length c0, .int .i64 a1] ?_; (with_reducible refine (card_Card_courses.calls k _ _ l0 a1 t480 true _ ?side1 ?side2 A7.out).mono ?_); (case side1 => exact zc (Kd.C_below HR0.out zh)); (case side2 => exact HC0.out); rintro e w10 ⟨v482, rfl, ho0, hb⟩; refine ⟨_, rfl, ?_⟩; have HO483 := Aside0.mk (Kd.R_lower ho0 (below_size zh)); replace HB := zd hb; (try clear hb); (try clear ho0); obtain ⟨Ao11, co11, eo11⟩ := Kd.R_slice HO483.out; subst eo11))
    go_loopg [9, 32] k (fun kq v9 v32 w' => ∃ (x9_1 : List (S29)) (x32_1 : Int), v32 = .int .i64 x32_1 ∧ Aside0 (card_Courses.l0 kq x9_1 t480 (t480.length : Int) x32_1 = some (r1, r2)) ∧ Aside0 (kq ≤ k) ∧ Aside0 (Kd.R k29 29 w' w.heap.size (fun _ => True) v9 x9_1) ∧ Aside0 (Kd.R k101 101 w' w.heap.size (fun _ => True) (.slice Ao11 t480.length co11) t480) ∧ Aside0 (Below w.heap.size w w'))
    case atStart => exact ⟨(([] : List (S29))), (0), (by first | rfl | (simp; done) | (simp [*]; done)), H', ⟨Nat.le_refl _⟩, ⟨by first | exact Kd.R_nil _ _ _ _ _ | exact Kd.N_nil _ _ _ _ _ | exact Kd.V_nil _ _ _ _ _ | exact Kd.Q_nil _ _ _ _ _ | exact Kd.S_nil _ _ _ _ _⟩, ⟨by refine zl ?_; exact HO483.out⟩, ⟨zh⟩⟩
    case round =>
     clear H'
     try clear c2
     try clear p2
     try clear c4
     try clear c4b0
     try clear c4b1
     try clear c5
     try clear c6
     try clear c8
     obtain ⟨x9_1, x32_1, rfl, HA, HK1, HO_9, HO_30, HB⟩ := hrel
     cases gk with
     | zero => exact absurd HA.out (by simp [card_Courses.l0])
     | succ k1 =>
      have H := HA.out
      clear HA
      simp only [card_Courses.l0] at H
      by_cases c12 : x32_1 < (t480.length : Int)
      ·rw [if_pos c12] at H
       have c12b0 : decide (x32_1 < (t480.length : Int)) = true := decide_eq_true c12
       clear c12
       by_cases c13 : 0 ≤ x32_1
       ·rw [if_pos c13] at H
        have c13b0 : decide (0 ≤ x32_1) = true := decide_eq_true c13
        clear c13
        by_cases c14 : x32_1 < (t480.length : Int)
        ·rw [if_pos c14] at H
         have c14b0 : decide (x32_1 < (t480.length : Int)) = true := decide_eq_true c14
         clear c14
         replace H := zi H
         obtain ⟨⟨t486, t487⟩, A150, H⟩ := H
         try dsimp only at H
         have A15 := Aside0.mk A150
         clear A150
         by_cases c16 : x9_1.length < 8796093022208
         ·rw [if_pos c16] at H
          have LMc16 := Aside0.mk c16
          clear c16
          obtain ⟨y488, hy488⟩ : ∃ y_ : List (S29), y_ = (x9_1 ++ [(⟨t486, t487⟩ : S29)]) := ⟨_, rfl⟩
          replace H : (card_Courses.l0 k1 y488 t480 (t480.length : Int) (wrap64 (x32_1 + 1))) = some (r1, r2) := by first | (rw [hy488]; with_reducible exact H) | (have H2_ := (Option.bind_some _ _).symm.trans H; rw [hy488]; with_reducible exact H2_) | (have H2_ := (Option.bind_some _ _).symm.trans H; with_reducible exact H2_) | with_reducible exact H | (rw [hy488]; exact H) | exact H
          have Ny488 := Aside0.mk hy488
          clear hy488
          have H' := Aside0.mk H
          clear H
          have p484 : 0 ≤ (x32_1 : Int) := zp
          have q484 : x32_1 < (t480.length : Int) := zp
          obtain ⟨ad484, e484, hx484_0, hx484_1⟩ := at_T101 (Kd.R_reads' HO_30.out).2.2 x32_1 p484 q484
          cases e484
          replace p484 := eq_true p484
          replace q484 := eq_true q484
          go_wp2_with (first | ((with_reducible refine gD 11 rfl ?_); refine zx 11 #[.int .i64 0, .int .i64 0] 101 ?_; intro gb485 hg w17 hbox hb; replace HO_9 := zr HO_9 hb; replace HO_30 := Aside0.mk (Kd.R_below (Kd.R_elderB (zo HO_30.out) gb485 (Nat.le_of_eq hg.symm)) hb); have BK485 := Aside0.mk (hbox); have GE485 := zG w hg; replace HB := zd hb; clear hb hbox hg; have hcz18_0 : w17.cell? ⟨gb485, 0, none⟩ = some (.int .i64 0) := zy BK485 0; have hcz18_1 : w17.cell? ⟨gb485, 1, none⟩ = some (.int .i64 0) := zy BK485 1; have hfz18_0 := blk_frozen BK485.out 0; have hfz18_1 := blk_frozen BK485.out 1) | ((with_reducible refine gC 55 rfl ?_); refine gL 38 Try.func55 #[.agg #[.int .i64 ((rd_T101 t480 x32_1).f0), .int .i64 ((rd_T101 t480 x32_1).f1)]] ?_; (with_reducible refine (card_ratio_out.calls ((rd_T101 t480 x32_1).f0) ((rd_T101 t480 x32_1).f1) t486 t487 _ A15.out).mono ?_); rintro e w19 ⟨rfl, hb⟩; refine ⟨_, rfl, ?_⟩; replace HO_9 := Aside0.mk (Kd.R_below (by refine zl ?_; exact (Kd.R_mono (Kd.R_far (p := ⟨gb485, 1, none⟩) (Kd.R_far (p := ⟨gb485, 0, none⟩) (Kd.R_types HO_9.out BK485.out (by decide)) (fun _ hk => hk.2) (.int .i64 ((rd_T101 t480 x32_1).f0))) (fun _ hk => hk.2) (.int .i64 ((rd_T101 t480 x32_1).f1))) (fun _ h_ => h_.1))) hb); replace HO_30 := Aside0.mk (Kd.R_below (by refine zl ?_; exact (Kd.R_mono (Kd.R_far (p := ⟨gb485, 1, none⟩) (Kd.R_far (p := ⟨gb485, 0, none⟩) (Kd.R_mono HO_30.out (fun k_ hk => (⟨hk, hk.2⟩ : _ ∧ k_ ≠ gb485))) (fun _ hk => hk.2) (.int .i64 ((rd_T101 t480 x32_1).f0))) (fun _ hk => hk.2) (.int .i64 ((rd_T101 t480 x32_1).f1))) (fun _ h_ => h_.1))) hb); replace HB := zd hb; (try clear hb); (try clear hk)) | ((with_reducible refine gate_builtin (b := .append) (xs := #[.tmp 36, .tmp 39]) rfl ?_); at_builtin; refine Kd.R_append k29 (w0 := w) w.heap.size rfl (.tmp 36) (.tmp 39) 42 29 (.agg #[(.int .i64 0), (.int .i64 0)]) 16 rfl Try.underlying42 info29 rfl (by decide) (by omega) u9 x9_1 (⟨t486, t487⟩ : S29) [.int .i64 t486, .int .i64 t487] (fun _ => True) (fun _ => False) rfl rfl ?aP (fun _ hk => hk.elim) ?aF ?aO ?aB ?aS ?aL ?_; (case aP => exact k29_mkM _ _ _ (⟨t486, t487⟩ : S29)); (case aB => exact zh); (case aF => exact (fun _ _ => trivial)); (case aO => exact (zo HO_9.out)); (case aS => exact (below_size zh)); (case aL => have := LMc16.out; omega); intro v489 w20 ho hb hg hat; rw [← Ny488.out] at ho; replace HO_30 := Aside0.mk (Kd.R_over' (zo HO_30.out) (Kd.R_typed (zo HO_9.out)) (by decide) hg); replace HB := Aside0.mk (hb); have HO490 := Aside0.mk (ho); clear HO_9; clear ho hb hg hat))
          go_roundg k1
          case measure => have := HK1.out; omega
          case rel => exact ⟨(y488), (wrap64 (x32_1 + 1)), (by first | rfl | (simp; done) | (simp [*]; done)), H', ⟨by have := HK1.out; omega⟩, ⟨by refine zl ?_; exact HO490.out⟩, ⟨by refine zl ?_; exact Kd.R_mono HO_30.out (fun _ hk => trivial)⟩, ⟨zh⟩⟩
         ·rw [if_neg c16] at H
          exact absurd H (by simp)
        ·rw [if_neg c14] at H
         exact absurd H (by simp)
       ·rw [if_neg c13] at H
        exact absurd H (by simp)
      ·rw [if_neg c12] at H
       have c12b0 : decide (x32_1 < (t480.length : Int)) = false := decide_eq_false c12
       clear c12
       simp only [Option.some.injEq, Prod.mk.injEq] at H
       obtain ⟨rfl, rfl⟩ := H
       go_wp2
       go_ret2
       exact ⟨_, ze, by refine zl ?_; exact HO_9.out, zh⟩
   ·replace c8 := Bool.eq_false_iff.mpr c8
    subst c8
    rw [if_neg (show ¬ (false = true) by decide)] at H
    simp only [Option.some.injEq, Prod.mk.injEq] at H
    obtain ⟨rfl, rfl⟩ := H
    go_enter Try.func23, Try.ntmps23
    go_wp2_with (first | ((with_reducible refine gC 21 rfl ?_); refine gL 13 Try.func21 #[.slice A0 l0.length c0] ?_; (with_reducible refine (card_Check.calls k _ _ l0 t478 _ ?side1 ?side2 A3.out).mono ?_); (case side1 => exact zc HR0.out); (case side2 => exact HC0.out); rintro e w21 ⟨rfl, hb⟩; refine ⟨_, rfl, ?_⟩; replace HB := zd hb; (try clear hb)) | ((with_reducible refine gC 52 rfl ?_); refine gL 20 Try.func52 #[.int .i64 a1] ?_; (with_reducible refine (card_heading.calls a1 true _ A5.out).mono ?_); rintro e w' ⟨rfl, ⟨nd, rfl⟩⟩; refine ⟨_, rfl, ?_⟩) | ((with_reducible refine gC 64 rfl ?_); refine gL 25 Try.func64 #[.slice A0 l0.length c0, .int .i64 a1] ?_; (with_reducible refine (card_Card_courses.calls k _ _ l0 a1 t480 false _ ?side1 ?side2 A7.out).mono ?_); (case side1 => exact zc (Kd.C_below HR0.out zh)); (case side2 => exact HC0.out); rintro e w22 ⟨v482, rfl, ho0, hb⟩; refine ⟨_, rfl, ?_⟩; replace HB := zd hb; (try clear hb); (try clear ho0)))
    go_ret2
    exact ⟨_, ze, by first | exact Kd.R_nil _ _ _ _ _ | exact Kd.N_nil _ _ _ _ _ | exact Kd.V_nil _ _ _ _ _ | exact Kd.Q_nil _ _ _ _ _ | exact Kd.S_nil _ _ _ _ _, zh⟩
  ·replace c6 := Bool.eq_false_iff.mpr c6
   subst c6
   rw [if_neg (show ¬ (false = true) by decide)] at H
   simp only [Option.some.injEq, Prod.mk.injEq] at H
   obtain ⟨rfl, rfl⟩ := H
   go_enter Try.func23, Try.ntmps23
   go_wp2_with (first | ((with_reducible refine gC 21 rfl ?_); refine gL 13 Try.func21 #[.slice A0 l0.length c0] ?_; (with_reducible refine (card_Check.calls k _ _ l0 t478 _ ?side1 ?side2 A3.out).mono ?_); (case side1 => exact zc HR0.out); (case side2 => exact HC0.out); rintro e w23 ⟨rfl, hb⟩; refine ⟨_, rfl, ?_⟩; replace HB := zd hb; (try clear hb)) | ((with_reducible refine gC 52 rfl ?_); refine gL 20 Try.func52 #[.int .i64 a1] ?_; (with_reducible refine (card_heading.calls a1 false _ A5.out).mono ?_); rintro e w' ⟨rfl, ⟨nd, rfl⟩⟩; refine ⟨_, rfl, ?_⟩))
   go_ret2
   exact ⟨_, ze, by first | exact Kd.R_nil _ _ _ _ _ | exact Kd.N_nil _ _ _ _ _ | exact Kd.V_nil _ _ _ _ _ | exact Kd.Q_nil _ _ _ _ _ | exact Kd.S_nil _ _ _ _ _, zh⟩
 ·rw [if_neg c4] at H
  have c4b0 : (t478 == 0) = false := beq_eq_false_iff_ne.mpr c4
  have c4b1 : (t478 != 0) = true := bne_iff_ne.mpr c4
  simp only [Option.some.injEq, Prod.mk.injEq] at H
  obtain ⟨rfl, rfl⟩ := H
  go_enter Try.func23, Try.ntmps23
  go_wp2_with (first | ((with_reducible refine gC 21 rfl ?_); refine gL 13 Try.func21 #[.slice A0 l0.length c0] ?_; (with_reducible refine (card_Check.calls k _ _ l0 t478 _ ?side1 ?side2 A3.out).mono ?_); (case side1 => exact zc HR0.out); (case side2 => exact HC0.out); rintro e w24 ⟨rfl, hb⟩; refine ⟨_, rfl, ?_⟩; replace HB := zd hb; (try clear hb)))
  go_ret2
  exact ⟨_, ze, by first | exact Kd.R_nil _ _ _ _ _ | exact Kd.N_nil _ _ _ _ _ | exact Kd.V_nil _ _ _ _ _ | exact Kd.Q_nil _ _ _ _ _ | exact Kd.S_nil _ _ _ _ _, zh⟩
def card_Card_allowance.f (k : Nat) (l0 : List (S55)) (a1 : Int) : Option (Int × Int) := (card_Card_courses.f k l0 a1).bind fun bt492 => (if 0 < (bt492.1.length : Int) then ((card_Card_deviation.f k l0 ((rd_T101 bt492.1 0).f0) ((rd_T101 bt492.1 0).f1)).bind fun bt497 => (some (bt497.1, bt497.2))) else (none))
set_option maxHeartbeats 8000000 in
set_option maxRecDepth 100000 in
theorem card_Card_allowance.calls (k : Nat) (A0 : Option Addr) (c0 : Nat) (l0 : List (S55)) (a1 : Int) (r1 : Int) (r2 : Int) (w : World) (hr0 : Kd.C k55 w A0 l0.length l0) (hc0 : l0.length ≤ c0) (h : card_Card_allowance.f k l0 a1 = some (r1, r2)) :
  Calls Try.prog 70 #[.slice A0 l0.length c0, .int .i64 a1] w fun e w' => e = .returned (.agg #[.int .i64 r1, .int .i64 r2]) ∧ Below w.heap.size w w' := by
 have hu101 := Try.underlying101
 have HR0 := Aside0.mk hr0
 have HC0 := Aside0.mk hc0
 clear hr0 hc0
 have HB := Aside0.mk (Below.refl w.heap.size w)
 have H : ((card_Card_courses.f k l0 a1).bind fun bt492 => (if 0 < (bt492.1.length : Int) then ((card_Card_deviation.f k l0 ((rd_T101 bt492.1 0).f0) ((rd_T101 bt492.1 0).f1)).bind fun bt497 => (some (bt497.1, bt497.2))) else (none))) = some (r1, r2) := h
 clear h
 replace H := zi H
 obtain ⟨⟨t492, t493⟩, A30, H⟩ := H
 try dsimp only at H
 have A3 := Aside0.mk A30
 clear A30
 by_cases c4 : 0 < (t492.length : Int)
 ·rw [if_pos c4] at H
  have c4b0 : decide (0 < (t492.length : Int)) = true := decide_eq_true c4
  have c4b1 : decide (0 < t492.length) = true := decide_eq_true (by omega)
  clear c4
  replace H := zi H
  obtain ⟨⟨t497, t498⟩, A50, H⟩ := H
  try dsimp only at H
  have A5 := Aside0.mk A50
  clear A50
  simp only [Option.some.injEq, Prod.mk.injEq] at H
  obtain ⟨rfl, rfl⟩ := H
  go_enter Try.func70, Try.ntmps70
  go_wp2_with (first | ((with_reducible refine gD 4 rfl ?_); refine zx 4 #[.int .i64 0, .int .i64 0] 101 ?_; intro gb491 hg w6 hbox hb; have BK491 := Aside0.mk (hbox); have GE491 := zG w hg; replace HB := zd hb; clear hb hbox hg) | ((with_reducible refine gC 64 rfl ?_); refine gL 10 Try.func64 #[.slice A0 l0.length c0, .int .i64 a1] ?_; (with_reducible refine (card_Card_courses.calls k _ _ l0 a1 t492 t493 _ ?side1 ?side2 A3.out).mono ?_); (case side1 => exact zc (Kd.C_below HR0.out HB.out)); (case side2 => exact HC0.out); rintro e w7 ⟨v494, rfl, ho0, hb⟩; refine ⟨_, rfl, ?_⟩; have HO495 := Aside0.mk (Kd.R_lower (Kd.R_newB ho0 (g := gb491) (o := .cells #[.int .i64 0, .int .i64 0] 101 (0, 0)) (zb BK491)) (below_size zh)); replace BK491 := zk BK491 hb; replace HB := zd hb; (try clear hb); (try clear ho0); obtain ⟨Ao8, co8, eo8⟩ := Kd.R_slice HO495.out; subst eo8; have p496 : 0 ≤ (0 : Int) := (by omega); have q496 : 0 < (t492.length : Int) := zp; obtain ⟨ad496, e496, hx496_0, hx496_1⟩ := at_T101 (Kd.R_reads' HO495.out).2.2 0 p496 q496; cases e496; have qi496 : (0 < t492.length) = True := eq_true (by omega); (try rw [show ((0 : Int)).toNat = 0 from rfl] at hx496_0); (try rw [show 0 * 2 = 0 from rfl] at hx496_0); (try rw [Addr.add_zero'] at hx496_0); (try rw [show ((0 : Int)).toNat = 0 from rfl] at hx496_1); (try rw [show 0 * 2 = 0 from rfl] at hx496_1); (try rw [Addr.add_zero'] at hx496_1); replace p496 := eq_true p496; replace q496 := eq_true q496) | ((with_reducible refine gC 53 rfl ?_); refine gL 17 Try.func53 #[.slice A0 l0.length c0, .agg #[.int .i64 ((rd_T101 t492 0).f0), .int .i64 ((rd_T101 t492 0).f1)]] ?_; (with_reducible refine (card_Card_deviation.calls k _ _ l0 ((rd_T101 t492 0).f0) ((rd_T101 t492 0).f1) t497 t498 _ ?side1 ?side2 A5.out).mono ?_); (case side1 => exact zc (Kd.C_below HR0.out HB.out)); (case side2 => exact HC0.out); rintro e w9 ⟨rfl, hb⟩; refine ⟨_, rfl, ?_⟩; replace BK491 := zk BK491 hb; replace HB := zd hb; (try clear hb); have hcz10_0 : w9.cell? ⟨gb491, 0, none⟩ = some (.int .i64 0) := zy BK491 0; have hcz10_1 : w9.cell? ⟨gb491, 1, none⟩ = some (.int .i64 0) := zy BK491 1; have hfz10_0 := blk_frozen BK491.out 0; have hfz10_1 := blk_frozen BK491.out 1))
  refine bodyPost_ret (results_cell_row rfl _ _ gb491 101 #[.int .i64 t497, .int .i64 t498] (0, 0) _ rfl (by refine zm ?_; refine blk_put (cs := #[.int .i64 t497, .int .i64 0]) ?_ 1 _ rfl; refine zm ?_; refine blk_put (cs := #[.int .i64 0, .int .i64 0]) ?_ 0 _ rfl; refine zm ?_; exact BK491.out) Try.underlying101 rfl (by kernel_rfl)) rfl ?_
  exact ⟨ze, zh⟩
 ·rw [if_neg c4] at H
  exact absurd H (by simp)
def card_Allowance.f (k : Nat) (l0 : List (S55)) (a1 : Int) : Option (Int × Int × Int) := (card_Check.f k l0).bind fun t500 => (if t500 = 0 then ((card_heading.f a1).bind fun t501 => (if t501 = true then ((card_Card_folds.f l0).bind fun t502 => (if (t502.length : Int) > 0 then (some (0, 0, 21)) else ((card_Card_allowance.f k l0 a1).bind fun bt505 => ((card_ratio_out.f bt505.1 bt505.2).bind fun bt507 => (some (bt507.1, bt507.2, 0)))))) else (some (0, 0, 1)))) else (some (0, 0, t500)))
set_option maxHeartbeats 8000000 in
set_option maxRecDepth 100000 in
theorem card_Allowance.calls (k : Nat) (A0 : Option Addr) (c0 : Nat) (l0 : List (S55)) (a1 : Int) (r1 : Int) (r2 : Int) (r3 : Int) (w : World) (hr0 : Kd.C k55 w A0 l0.length l0) (hc0 : l0.length ≤ c0) (h : card_Allowance.f k l0 a1 = some (r1, r2, r3)) :
  Calls Try.prog 25 #[.slice A0 l0.length c0, .int .i64 a1] w fun e w' => e = .returned (.tuple #[.agg #[.int .i64 r1, .int .i64 r2], .int .i64 r3]) ∧ Below w.heap.size w w' := by
 have hu29 := Try.underlying29
 have HR0 := Aside0.mk hr0
 have HC0 := Aside0.mk hc0
 clear hr0 hc0
 have HB := Aside0.mk (Below.refl w.heap.size w)
 have H : ((card_Check.f k l0).bind fun t500 => (if t500 = 0 then ((card_heading.f a1).bind fun t501 => (if t501 = true then ((card_Card_folds.f l0).bind fun t502 => (if (t502.length : Int) > 0 then (some (0, 0, 21)) else ((card_Card_allowance.f k l0 a1).bind fun bt505 => ((card_ratio_out.f bt505.1 bt505.2).bind fun bt507 => (some (bt507.1, bt507.2, 0)))))) else (some (0, 0, 1)))) else (some (0, 0, t500)))) = some (r1, r2, r3) := h
 clear h
 replace H := zi H
 obtain ⟨t500, A30, H⟩ := H
 try dsimp only at H
 have A3 := Aside0.mk A30
 clear A30
 by_cases c4 : t500 = 0
 ·rw [if_pos c4] at H
  have c4b0 : (t500 == 0) = true := beq_iff_eq.mpr c4
  have c4b1 : (t500 != 0) = false := bne_eq_false_iff_eq.mpr c4
  clear c4
  replace H := zi H
  obtain ⟨t501, A50, H⟩ := H
  try dsimp only at H
  have A5 := Aside0.mk A50
  clear A50
  by_cases c6 : t501 = true
  ·subst c6
   rw [if_pos rfl] at H
   replace H := zi H
   obtain ⟨t502, A70, H⟩ := H
   try dsimp only at H
   have A7 := Aside0.mk A70
   clear A70
   by_cases c8 : (t502.length : Int) > 0
   ·rw [if_pos c8] at H
    have c8b0 : decide (0 < (t502.length : Int)) = true := decide_eq_true c8
    have c8b1 : decide (0 < t502.length) = true := decide_eq_true (by omega)
    clear c8
    simp only [Option.some.injEq, Prod.mk.injEq] at H
    obtain ⟨rfl, rfl, rfl⟩ := H
    go_enter Try.func25, Try.ntmps25
    go_wp2_with (first | ((with_reducible refine gD 4 rfl ?_); refine zx 4 #[.int .i64 0, .int .i64 0] 29 ?_; intro gb499 hg w9 hbox hb; have BK499 := Aside0.mk (hbox); have GE499 := zG w hg; replace HB := zd hb; clear hb hbox hg) | ((with_reducible refine gC 21 rfl ?_); refine gL 8 Try.func21 #[.slice A0 l0.length c0] ?_; (with_reducible refine (card_Check.calls k _ _ l0 t500 _ ?side1 ?side2 A3.out).mono ?_); (case side1 => exact zc (Kd.C_below HR0.out HB.out)); (case side2 => exact HC0.out); rintro e w10 ⟨rfl, hb⟩; refine ⟨_, rfl, ?_⟩; replace BK499 := zk BK499 hb; replace HB := zd hb; (try clear hb)) | ((with_reducible refine gC 52 rfl ?_); refine gL 16 Try.func52 #[.int .i64 a1] ?_; (with_reducible refine (card_heading.calls a1 true _ A5.out).mono ?_); rintro e w' ⟨rfl, ⟨nd, rfl⟩⟩; refine ⟨_, rfl, ?_⟩; (try (rw [drewN_self w10]; generalize hq_ : World.drewN w10 _ = w10; have n0_ : Aside0 (w10.heap[gb499]? = some (.cells #[.int .i64 0, .int .i64 0] 29 (0, 0))) := ⟨by rw [← hq_]; exact (zb BK499)⟩; have n1_ : Aside0 (Below w.heap.size w w10) := ⟨by rw [← hq_]; exact zh⟩; clear BK499 HB hq_; have BK499 := n0_; have HB := n1_; clear n0_ n1_))) | ((with_reducible refine gC 59 rfl ?_); refine gL 21 Try.func59 #[.slice A0 l0.length c0] ?_; (with_reducible refine (card_Card_folds.calls _ _ l0 t502 _ ?side1 ?side2 A7.out).mono ?_); (case side1 => exact zc (Kd.C_below HR0.out HB.out)); (case side2 => exact HC0.out); rintro e w11 ⟨v503, rfl, ho0, hb⟩; refine ⟨_, rfl, ?_⟩; have HO504 := Aside0.mk (Kd.R_lower ho0 (below_size zh)); replace BK499 := zk BK499 hb; replace HB := zd hb; (try clear hb); (try clear ho0); obtain ⟨Ao12, co12, eo12⟩ := Kd.R_slice HO504.out; subst eo12; have hcz13_0 : w11.cell? ⟨gb499, 0, none⟩ = some (.int .i64 0) := zy BK499 0; have hcz13_1 : w11.cell? ⟨gb499, 1, none⟩ = some (.int .i64 0) := zy BK499 1; have hfz13_0 := blk_frozen BK499.out 0; have hfz13_1 := blk_frozen BK499.out 1))
    refine bodyPost_ret (results_ct rfl _ _ gb499 29 #[.int .i64 0, .int .i64 0] (0, 0) _ rfl (by refine zm ?_; refine blk_put (cs := #[.int .i64 0, .int .i64 0]) ?_ 1 _ rfl; refine zm ?_; refine blk_put (cs := #[.int .i64 0, .int .i64 0]) ?_ 0 _ rfl; refine zm ?_; exact BK499.out) Try.underlying29 rfl (by kernel_rfl)) rfl ?_
    exact ⟨ze, zh⟩
   ·rw [if_neg c8] at H
    have c8b0 : decide (0 < (t502.length : Int)) = false := decide_eq_false c8
    have c8b1 : decide (0 < t502.length) = false := decide_eq_false (by omega)
    clear c8
    replace H := zi H
    obtain ⟨⟨t505, t506⟩, A140, H⟩ := H
    try dsimp only at H
    have A14 := Aside0.mk A140
    clear A140
    replace H := zi H
    obtain ⟨⟨t507, t508⟩, A150, H⟩ := H
    try dsimp only at H
    have A15 := Aside0.mk A150
    clear A150
    simp only [Option.some.injEq, Prod.mk.injEq] at H
    obtain ⟨rfl, rfl, rfl⟩ := H
    go_enter Try.func25, Try.ntmps25
    go_wp2_with (first | ((with_reducible refine gD 4 rfl ?_); refine zx 4 #[.int .i64 0, .int .i64 0] 29 ?_; intro gb499 hg w16 hbox hb; have BK499 := Aside0.mk (hbox); have GE499 := zG w hg; replace HB := zd hb; clear hb hbox hg) | ((with_reducible refine gC 21 rfl ?_); refine gL 8 Try.func21 #[.slice A0 l0.length c0] ?_; (with_reducible refine (card_Check.calls k _ _ l0 t500 _ ?side1 ?side2 A3.out).mono ?_); (case side1 => exact zc (Kd.C_below HR0.out HB.out)); (case side2 => exact HC0.out); rintro e w17 ⟨rfl, hb⟩; refine ⟨_, rfl, ?_⟩; replace BK499 := zk BK499 hb; replace HB := zd hb; (try clear hb)) | ((with_reducible refine gC 52 rfl ?_); refine gL 16 Try.func52 #[.int .i64 a1] ?_; (with_reducible refine (card_heading.calls a1 true _ A5.out).mono ?_); rintro e w' ⟨rfl, ⟨nd, rfl⟩⟩; refine ⟨_, rfl, ?_⟩; (try (rw [drewN_self w17]; generalize hq_ : World.drewN w17 _ = w17; have n0_ : Aside0 (w17.heap[gb499]? = some (.cells #[.int .i64 0, .int .i64 0] 29 (0, 0))) := ⟨by rw [← hq_]; exact (zb BK499)⟩; have n1_ : Aside0 (Below w.heap.size w w17) := ⟨by rw [← hq_]; exact zh⟩; clear BK499 HB hq_; have BK499 := n0_; have HB := n1_; clear n0_ n1_))) | ((with_reducible refine gC 59 rfl ?_); refine gL 21 Try.func59 #[.slice A0 l0.length c0] ?_; (with_reducible refine (card_Card_folds.calls _ _ l0 t502 _ ?side1 ?side2 A7.out).mono ?_); (case side1 => exact zc (Kd.C_below HR0.out HB.out)); (case side2 => exact HC0.out); rintro e w18 ⟨v503, rfl, ho0, hb⟩; refine ⟨_, rfl, ?_⟩; have HO504 := Aside0.mk (Kd.R_lower ho0 (below_size zh)); replace BK499 := zk BK499 hb; replace HB := zd hb; (try clear hb); (try clear ho0); obtain ⟨Ao19, co19, eo19⟩ := Kd.R_slice HO504.out; subst eo19) | ((with_reducible refine gC 70 rfl ?_); refine gL 27 Try.func70 #[.slice A0 l0.length c0, .int .i64 a1] ?_; (with_reducible refine (card_Card_allowance.calls k _ _ l0 a1 t505 t506 _ ?side1 ?side2 A14.out).mono ?_); (case side1 => exact zc (Kd.C_below HR0.out HB.out)); (case side2 => exact HC0.out); rintro e w20 ⟨rfl, hb⟩; refine ⟨_, rfl, ?_⟩; replace BK499 := zk BK499 hb; replace HB := zd hb; (try clear hb)) | ((with_reducible refine gC 55 rfl ?_); refine gL 28 Try.func55 #[.agg #[.int .i64 t505, .int .i64 t506]] ?_; (with_reducible refine (card_ratio_out.calls t505 t506 t507 t508 _ A15.out).mono ?_); rintro e w21 ⟨rfl, hb⟩; refine ⟨_, rfl, ?_⟩; replace BK499 := zk BK499 hb; replace HB := zd hb; (try clear hb); have hcz22_0 : w21.cell? ⟨gb499, 0, none⟩ = some (.int .i64 0) := zy BK499 0; have hcz22_1 : w21.cell? ⟨gb499, 1, none⟩ = some (.int .i64 0) := zy BK499 1; have hfz22_0 := blk_frozen BK499.out 0; have hfz22_1 := blk_frozen BK499.out 1))
    refine bodyPost_ret (results_ct rfl _ _ gb499 29 #[.int .i64 t507, .int .i64 t508] (0, 0) _ rfl (by refine zm ?_; refine blk_put (cs := #[.int .i64 t507, .int .i64 0]) ?_ 1 _ rfl; refine zm ?_; refine blk_put (cs := #[.int .i64 0, .int .i64 0]) ?_ 0 _ rfl; refine zm ?_; exact BK499.out) Try.underlying29 rfl (by kernel_rfl)) rfl ?_
    exact ⟨ze, zh⟩
  ·replace c6 := Bool.eq_false_iff.mpr c6
   subst c6
   rw [if_neg (show ¬ (false = true) by decide)] at H
   simp only [Option.some.injEq, Prod.mk.injEq] at H
   obtain ⟨rfl, rfl, rfl⟩ := H
   go_enter Try.func25, Try.ntmps25
   go_wp2_with (first | ((with_reducible refine gD 4 rfl ?_); refine zx 4 #[.int .i64 0, .int .i64 0] 29 ?_; intro gb499 hg w23 hbox hb; have BK499 := Aside0.mk (hbox); have GE499 := zG w hg; replace HB := zd hb; clear hb hbox hg) | ((with_reducible refine gC 21 rfl ?_); refine gL 8 Try.func21 #[.slice A0 l0.length c0] ?_; (with_reducible refine (card_Check.calls k _ _ l0 t500 _ ?side1 ?side2 A3.out).mono ?_); (case side1 => exact zc (Kd.C_below HR0.out HB.out)); (case side2 => exact HC0.out); rintro e w24 ⟨rfl, hb⟩; refine ⟨_, rfl, ?_⟩; replace BK499 := zk BK499 hb; replace HB := zd hb; (try clear hb)) | ((with_reducible refine gC 52 rfl ?_); refine gL 16 Try.func52 #[.int .i64 a1] ?_; (with_reducible refine (card_heading.calls a1 false _ A5.out).mono ?_); rintro e w' ⟨rfl, ⟨nd, rfl⟩⟩; refine ⟨_, rfl, ?_⟩; (try (rw [drewN_self w24]; generalize hq_ : World.drewN w24 _ = w24; have n0_ : Aside0 (w24.heap[gb499]? = some (.cells #[.int .i64 0, .int .i64 0] 29 (0, 0))) := ⟨by rw [← hq_]; exact (zb BK499)⟩; have n1_ : Aside0 (Below w.heap.size w w24) := ⟨by rw [← hq_]; exact zh⟩; clear BK499 HB hq_; have BK499 := n0_; have HB := n1_; clear n0_ n1_)); have hcz25_0 : w24.cell? ⟨gb499, 0, none⟩ = some (.int .i64 0) := zy BK499 0; have hcz25_1 : w24.cell? ⟨gb499, 1, none⟩ = some (.int .i64 0) := zy BK499 1; have hfz25_0 := blk_frozen BK499.out 0; have hfz25_1 := blk_frozen BK499.out 1))
   refine bodyPost_ret (results_ct rfl _ _ gb499 29 #[.int .i64 0, .int .i64 0] (0, 0) _ rfl (by refine zm ?_; refine blk_put (cs := #[.int .i64 0, .int .i64 0]) ?_ 1 _ rfl; refine zm ?_; refine blk_put (cs := #[.int .i64 0, .int .i64 0]) ?_ 0 _ rfl; refine zm ?_; exact BK499.out) Try.underlying29 rfl (by kernel_rfl)) rfl ?_
   exact ⟨ze, zh⟩
 ·rw [if_neg c4] at H
  have c4b0 : (t500 == 0) = false := beq_eq_false_iff_ne.mpr c4
  have c4b1 : (t500 != 0) = true := bne_iff_ne.mpr c4
  simp only [Option.some.injEq, Prod.mk.injEq] at H
  obtain ⟨rfl, rfl, rfl⟩ := H
  go_enter Try.func25, Try.ntmps25
  go_wp2_with (first | ((with_reducible refine gD 4 rfl ?_); refine zx 4 #[.int .i64 0, .int .i64 0] 29 ?_; intro gb499 hg w26 hbox hb; have BK499 := Aside0.mk (hbox); have GE499 := zG w hg; replace HB := zd hb; clear hb hbox hg) | ((with_reducible refine gC 21 rfl ?_); refine gL 8 Try.func21 #[.slice A0 l0.length c0] ?_; (with_reducible refine (card_Check.calls k _ _ l0 t500 _ ?side1 ?side2 A3.out).mono ?_); (case side1 => exact zc (Kd.C_below HR0.out HB.out)); (case side2 => exact HC0.out); rintro e w27 ⟨rfl, hb⟩; refine ⟨_, rfl, ?_⟩; replace BK499 := zk BK499 hb; replace HB := zd hb; (try clear hb); have hcz28_0 : w27.cell? ⟨gb499, 0, none⟩ = some (.int .i64 0) := zy BK499 0; have hcz28_1 : w27.cell? ⟨gb499, 1, none⟩ = some (.int .i64 0) := zy BK499 1; have hfz28_0 := blk_frozen BK499.out 0; have hfz28_1 := blk_frozen BK499.out 1))
  refine bodyPost_ret (results_ct rfl _ _ gb499 29 #[.int .i64 0, .int .i64 0] (0, 0) _ rfl (by refine zm ?_; refine blk_put (cs := #[.int .i64 0, .int .i64 0]) ?_ 1 _ rfl; refine zm ?_; refine blk_put (cs := #[.int .i64 0, .int .i64 0]) ?_ 0 _ rfl; refine zm ?_; exact BK499.out) Try.underlying29 rfl (by kernel_rfl)) rfl ?_
  exact ⟨ze, zh⟩
def card_Sure.f (k : Nat) (l0 : List (S92)) : Option (Int) := (card_Known_check.f k l0).bind fun t509 => (if t509 = 0 then ((card_Known_folds.f k l0).bind fun t510 => (if t510 = true then (some 21) else (some t509))) else (some t509))
set_option maxHeartbeats 8000000 in
set_option maxRecDepth 100000 in
theorem card_Sure.calls (k : Nat) (A0 : Option Addr) (c0 : Nat) (l0 : List (S92)) (r : Int) (w : World) (hr0 : Kd.C k92 w A0 l0.length l0) (hc0 : l0.length ≤ c0) (h : card_Sure.f k l0 = some r) :
  Calls Try.prog 35 #[.slice A0 l0.length c0] w fun e w' => e = .returned (.int .i64 r) ∧ Below w.heap.size w w' := by
 have HR0 := Aside0.mk hr0
 have HC0 := Aside0.mk hc0
 clear hr0 hc0
 have HB := Aside0.mk (Below.refl w.heap.size w)
 have H : ((card_Known_check.f k l0).bind fun t509 => (if t509 = 0 then ((card_Known_folds.f k l0).bind fun t510 => (if t510 = true then (some 21) else (some t509))) else (some t509))) = some r := h
 clear h
 replace H := zi H
 obtain ⟨t509, A20, H⟩ := H
 try dsimp only at H
 have A2 := Aside0.mk A20
 clear A20
 by_cases c3 : t509 = 0
 ·rw [if_pos c3] at H
  have c3b0 : (t509 == 0) = true := beq_iff_eq.mpr c3
  have c3b1 : (t509 != 0) = false := bne_eq_false_iff_eq.mpr c3
  clear c3
  replace H := zi H
  obtain ⟨t510, A40, H⟩ := H
  try dsimp only at H
  have A4 := Aside0.mk A40
  clear A40
  by_cases c5 : t510 = true
  ·subst c5
   rw [if_pos rfl] at H
   obtain rfl := Option.some.inj H
   go_enter Try.func35, Try.ntmps35
   go_wp2_with (first | ((with_reducible refine gC 62 rfl ?_); refine gL 5 Try.func62 #[.slice A0 l0.length c0] ?_; (with_reducible refine (card_Known_check.calls k _ _ l0 t509 _ ?side1 ?side2 A2.out).mono ?_); (case side1 => exact zc HR0.out); (case side2 => exact HC0.out); rintro e w6 ⟨rfl, hb⟩; refine ⟨_, rfl, ?_⟩; replace HB := zd hb; (try clear hb)) | (go_at_call 77; (with_reducible refine (card_Known_folds.calls k _ _ l0 true _ ?side1 ?side2 A4.out).mono ?_); (case side1 => exact zc (Kd.C_below HR0.out HB.out)); (case side2 => exact HC0.out); rintro e w7 ⟨rfl, hb⟩; replace HB := zd hb; (try clear hb)))
   go_ret
   exact ⟨ze, zh⟩
  ·replace c5 := Bool.eq_false_iff.mpr c5
   subst c5
   rw [if_neg (show ¬ (false = true) by decide)] at H
   obtain rfl := Option.some.inj H
   go_enter Try.func35, Try.ntmps35
   go_wp2_with (first | ((with_reducible refine gC 62 rfl ?_); refine gL 5 Try.func62 #[.slice A0 l0.length c0] ?_; (with_reducible refine (card_Known_check.calls k _ _ l0 t509 _ ?side1 ?side2 A2.out).mono ?_); (case side1 => exact zc HR0.out); (case side2 => exact HC0.out); rintro e w8 ⟨rfl, hb⟩; refine ⟨_, rfl, ?_⟩; replace HB := zd hb; (try clear hb)) | (go_at_call 77; (with_reducible refine (card_Known_folds.calls k _ _ l0 false _ ?side1 ?side2 A4.out).mono ?_); (case side1 => exact zc (Kd.C_below HR0.out HB.out)); (case side2 => exact HC0.out); rintro e w9 ⟨rfl, hb⟩; replace HB := zd hb; (try clear hb)))
   go_ret
   exact ⟨ze, zh⟩
 ·rw [if_neg c3] at H
  have c3b0 : (t509 == 0) = false := beq_eq_false_iff_ne.mpr c3
  have c3b1 : (t509 != 0) = true := bne_iff_ne.mpr c3
  obtain rfl := Option.some.inj H
  go_enter Try.func35, Try.ntmps35
  go_wp2_with (first | ((with_reducible refine gC 62 rfl ?_); refine gL 5 Try.func62 #[.slice A0 l0.length c0] ?_; (with_reducible refine (card_Known_check.calls k _ _ l0 t509 _ ?side1 ?side2 A2.out).mono ?_); (case side1 => exact zc HR0.out); (case side2 => exact HC0.out); rintro e w10 ⟨rfl, hb⟩; refine ⟨_, rfl, ?_⟩; replace HB := zd hb; (try clear hb)))
  go_ret
  exact ⟨ze, zh⟩
mutual
def agoniclaw05_course.j0 : Nat → List (S55) → Int → Int → Option (Int × Int × Int)
 | 0, _, _, _ => none
 | k + 1, x0, x512000, x512001 => agoniclaw05_course.l0 k x0 (x0.length : Int) 0 x512000 x512001
def agoniclaw05_course.l0 : Nat → List (S55) → Int → Int → Int → Int → Option (Int × Int × Int)
 | 0, _, _, _, _, _ => none
 | k + 1, x0, x28, x29, x512000, x512001 => if x29 < x28 then ((agoniclaw05_ends.f x0 x29).bind fun bt516 => (if x512000 ≥ (wrap64 (bt516.2.2.1 * x512001)) then (agoniclaw05_course.l0 k x0 x28 (wrap64 (x29 + 1)) x512000 x512001) else ((agoniclaw05_part.f (wrap64 ((wrap64 ((wrap64 (x512000 * (wrap64 (bt516.2.2.1 - bt516.1)))) + (wrap64 ((wrap64 (bt516.2.1 * (wrap64 (bt516.2.2.1 - bt516.1)))) * x512001)))) + (wrap64 ((wrap64 (bt516.2.2.2 - bt516.2.1)) * (wrap64 (x512000 - (wrap64 (bt516.1 * x512001)))))))) (wrap64 ((wrap64 (bt516.2.2.1 - bt516.1)) * x512001))).bind fun bt522 => (some (bt522.1, bt522.2, x29))))) else ((agoniclaw05_part.f 0 1).bind fun bt514 => (some (bt514.1, bt514.2, (-1))))
end
def agoniclaw05_course.f (k : Nat) (l0 : List (S55)) (a1_0 : Int) (a1_1 : Int) : Option (Int × Int × Int) := if 0 < (l0.length : Int) then (if a1_0 < (wrap64 (((rd_T55 l0 0).f0) * a1_1)) then (agoniclaw05_course.j0 k l0 (wrap64 (a1_0 + (wrap64 (3600 * a1_1)))) a1_1) else (agoniclaw05_course.j0 k l0 a1_0 a1_1)) else (none)
set_option maxHeartbeats 8000000 in
set_option maxRecDepth 100000 in
theorem agoniclaw05_course.calls (k : Nat) (A0 : Option Addr) (c0 : Nat) (l0 : List (S55)) (a1_0 : Int) (a1_1 : Int) (r1 : Int) (r2 : Int) (r3 : Int) (w : World) (hr0 : Kd.C k55 w A0 l0.length l0) (hc0 : l0.length ≤ c0) (h : agoniclaw05_course.f k l0 a1_0 a1_1 = some (r1, r2, r3)) :
  Calls Try.prog 40 #[.slice A0 l0.length c0, .agg #[.int .i64 a1_0, .int .i64 a1_1]] w fun e w' => e = .returned (.tuple #[.agg #[.int .i64 r1, .int .i64 r2], .int .i64 r3]) ∧ Below w.heap.size w w' := by
 have hu29 := Try.underlying29
 have hu55 := Try.underlying55
 have HR0 := Aside0.mk hr0
 have HC0 := Aside0.mk hc0
 clear hr0 hc0
 have HB := Aside0.mk (Below.refl w.heap.size w)
 have H : (if 0 < (l0.length : Int) then (if a1_0 < (wrap64 (((rd_T55 l0 0).f0) * a1_1)) then (agoniclaw05_course.j0 k l0 (wrap64 (a1_0 + (wrap64 (3600 * a1_1)))) a1_1) else (agoniclaw05_course.j0 k l0 a1_0 a1_1)) else (none)) = some (r1, r2, r3) := h
 clear h
 by_cases c3 : 0 < (l0.length : Int)
 ·rw [if_pos c3] at H
  have c3b0 : decide (0 < (l0.length : Int)) = true := decide_eq_true c3
  have c3b1 : decide (0 < l0.length) = true := decide_eq_true (by omega)
  clear c3
  have HC4 := Aside0.mk H
  clear H
  go_enter Try.func40, Try.ntmps40
  go_upto_if 19 with (first | ((with_reducible refine gD 3 rfl ?_); refine zx 3 #[.int .i64 a1_0, .int .i64 a1_1] 29 ?_; intro gb511 hg w5 hbox hb; have BK511 := Aside0.mk (hbox); have GE511 := zG w hg; replace HB := zd hb; clear hb hbox hg) | ((with_reducible refine gD 4 rfl ?_); refine zx 4 #[.int .i64 0, .int .i64 0] 29 ?_; intro gb512 hg w6 hbox hb; have BK512 := Aside0.mk (hbox); have GE512 := zG w hg; replace HB := zd hb; have NB511_512 := zN BK511 hg; have NB512_511 := zM BK511 hg; replace BK511 := zk BK511 hb; clear hb hbox hg; have hnb7 := NB511_512.out; have hnc7 := NB512_511.out; have hcz8_0 : w6.cell? ⟨gb511, 0, none⟩ = some (.int .i64 a1_0) := zy BK511 0; have hcz8_1 : w6.cell? ⟨gb511, 1, none⟩ = some (.int .i64 a1_1) := zy BK511 1; have hfz8_0 := blk_frozen BK511.out 0; have hfz8_1 := blk_frozen BK511.out 1; have p513 : 0 ≤ (0 : Int) := (by omega); have q513 : 0 < (l0.length : Int) := zp; obtain ⟨ad513, e513, hx513_0, hx513_1⟩ := at_T55 HR0.out 0 p513 q513; cases e513; have qi513 : (0 < l0.length) = True := eq_true (by omega); (try rw [show ((0 : Int)).toNat = 0 from rfl] at hx513_0); (try rw [show 0 * 2 = 0 from rfl] at hx513_0); (try rw [Addr.add_zero'] at hx513_0); (try rw [show ((0 : Int)).toNat = 0 from rfl] at hx513_1); (try rw [show 0 * 2 = 0 from rfl] at hx513_1); (try rw [Addr.add_zero'] at hx513_1); replace hx513_0 := (HB.out.cell (World.block_lt_of_cell? w _ hx513_0)).trans hx513_0; replace hx513_1 := (HB.out.cell (World.block_lt_of_cell? w _ hx513_1)).trans hx513_1; replace p513 := eq_true p513; replace q513 := eq_true q513))
  repeat (go_quiet (first | ((with_reducible refine gD 3 rfl ?_); refine zx 3 #[.int .i64 a1_0, .int .i64 a1_1] 29 ?_; intro gb511 hg w5 hbox hb; have BK511 := Aside0.mk (hbox); have GE511 := zG w hg; replace HB := zd hb; clear hb hbox hg) | ((with_reducible refine gD 4 rfl ?_); refine zx 4 #[.int .i64 0, .int .i64 0] 29 ?_; intro gb512 hg w6 hbox hb; have BK512 := Aside0.mk (hbox); have GE512 := zG w hg; replace HB := zd hb; have NB511_512 := zN BK511 hg; have NB512_511 := zM BK511 hg; replace BK511 := zk BK511 hb; clear hb hbox hg; have hnb7 := NB511_512.out; have hnc7 := NB512_511.out; have hcz8_0 : w6.cell? ⟨gb511, 0, none⟩ = some (.int .i64 a1_0) := zy BK511 0; have hcz8_1 : w6.cell? ⟨gb511, 1, none⟩ = some (.int .i64 a1_1) := zy BK511 1; have hfz8_0 := blk_frozen BK511.out 0; have hfz8_1 := blk_frozen BK511.out 1; have p513 : 0 ≤ (0 : Int) := (by omega); have q513 : 0 < (l0.length : Int) := zp; obtain ⟨ad513, e513, hx513_0, hx513_1⟩ := at_T55 HR0.out 0 p513 q513; cases e513; have qi513 : (0 < l0.length) = True := eq_true (by omega); (try rw [show ((0 : Int)).toNat = 0 from rfl] at hx513_0); (try rw [show 0 * 2 = 0 from rfl] at hx513_0); (try rw [Addr.add_zero'] at hx513_0); (try rw [show ((0 : Int)).toNat = 0 from rfl] at hx513_1); (try rw [show 0 * 2 = 0 from rfl] at hx513_1); (try rw [Addr.add_zero'] at hx513_1); replace hx513_0 := (HB.out.cell (World.block_lt_of_cell? w _ hx513_0)).trans hx513_0; replace hx513_1 := (HB.out.cell (World.block_lt_of_cell? w _ hx513_1)).trans hx513_1; replace p513 := eq_true p513; replace q513 := eq_true q513)); go_upto_if 19 with (first | ((with_reducible refine gD 3 rfl ?_); refine zx 3 #[.int .i64 a1_0, .int .i64 a1_1] 29 ?_; intro gb511 hg w5 hbox hb; have BK511 := Aside0.mk (hbox); have GE511 := zG w hg; replace HB := zd hb; clear hb hbox hg) | ((with_reducible refine gD 4 rfl ?_); refine zx 4 #[.int .i64 0, .int .i64 0] 29 ?_; intro gb512 hg w6 hbox hb; have BK512 := Aside0.mk (hbox); have GE512 := zG w hg; replace HB := zd hb; have NB511_512 := zN BK511 hg; have NB512_511 := zM BK511 hg; replace BK511 := zk BK511 hb; clear hb hbox hg; have hnb7 := NB511_512.out; have hnc7 := NB512_511.out; have hcz8_0 : w6.cell? ⟨gb511, 0, none⟩ = some (.int .i64 a1_0) := zy BK511 0; have hcz8_1 : w6.cell? ⟨gb511, 1, none⟩ = some (.int .i64 a1_1) := zy BK511 1; have hfz8_0 := blk_frozen BK511.out 0; have hfz8_1 := blk_frozen BK511.out 1; have p513 : 0 ≤ (0 : Int) := (by omega); have q513 : 0 < (l0.length : Int) := zp; obtain ⟨ad513, e513, hx513_0, hx513_1⟩ := at_T55 HR0.out 0 p513 q513; cases e513; have qi513 : (0 < l0.length) = True := eq_true (by omega); (try rw [show ((0 : Int)).toNat = 0 from rfl] at hx513_0); (try rw [show 0 * 2 = 0 from rfl] at hx513_0); (try rw [Addr.add_zero'] at hx513_0); (try rw [show ((0 : Int)).toNat = 0 from rfl] at hx513_1); (try rw [show 0 * 2 = 0 from rfl] at hx513_1); (try rw [Addr.add_zero'] at hx513_1); replace hx513_0 := (HB.out.cell (World.block_lt_of_cell? w _ hx513_0)).trans hx513_0; replace hx513_1 := (HB.out.cell (World.block_lt_of_cell? w _ hx513_1)).trans hx513_1; replace p513 := eq_true p513; replace q513 := eq_true q513)))
  (try simp only [Act.put, List.setIfInBounds_toArray, List.set_cons_zero, List.set_cons_succ])
  go_cut [] (fun wc => ∃ (kq : Nat) (x512000_3 : Int), Aside0 (agoniclaw05_course.j0 kq l0 x512000_3 a1_1 = some (r1, r2, r3)) ∧ Aside0 (kq ≤ k) ∧ Aside0 (wc.heap[gb511]? = some (.cells #[.int .i64 x512000_3, .int .i64 a1_1] 29 (0, 0))) ∧ Aside0 (wc.heap[gb512]? = some (.cells #[.int .i64 0, .int .i64 0] 29 (0, 0))) ∧ Aside0 (Below w.heap.size w wc))
  case first =>
   have H := HC4.out
   clear HC4
   by_cases c9 : a1_0 < (wrap64 (((rd_T55 l0 0).f0) * a1_1))
   ·rw [if_pos c9] at H
    have c9b0 : decide (a1_0 < (wrap64 (((rd_T55 l0 0).f0) * a1_1))) = true := decide_eq_true c9
    clear c9
    (first | rw [c9b0] | (simp only [i64_w, i32_w]; rw [c9b0]) | skip)
    have H' := Aside0.mk H
    clear H
    have hnb10 := NB511_512.out
    have hnc10 := NB512_511.out
    have hcz11_0 : w6.cell? ⟨gb511, 0, none⟩ = some (.int .i64 a1_0) := zy BK511 0
    have hcz11_1 : w6.cell? ⟨gb511, 1, none⟩ = some (.int .i64 a1_1) := zy BK511 1
    have hfz11_0 := blk_frozen BK511.out 0
    have hfz11_1 := blk_frozen BK511.out 1
    go_wp2
    repeat (go_quiet (fail); try go_wp2)
    go_meet
    case rel => exact ⟨_, (wrap64 (a1_0 + (wrap64 (3600 * a1_1)))), H', ⟨by first | omega | exact Nat.le_refl _⟩, ⟨by refine zm ?_; refine blk_put (cs := #[.int .i64 a1_0, .int .i64 a1_1]) ?_ 0 _ rfl; refine zm ?_; exact BK511.out⟩, ⟨by refine zm ?_; refine blk_far ?_ NB512_511.out _; refine zm ?_; exact BK512.out⟩, ⟨zh⟩⟩
   ·rw [if_neg c9] at H
    have c9b0 : decide (a1_0 < (wrap64 (((rd_T55 l0 0).f0) * a1_1))) = false := decide_eq_false c9
    clear c9
    (first | rw [c9b0] | (simp only [i64_w, i32_w]; rw [c9b0]) | skip)
    have H' := Aside0.mk H
    clear H
    go_wp2
    repeat (go_quiet (fail); try go_wp2)
    go_meet
    case rel => exact ⟨_, (a1_0), H', ⟨by first | omega | exact Nat.le_refl _⟩, ⟨by refine zm ?_; exact BK511.out⟩, ⟨by refine zm ?_; exact BK512.out⟩, ⟨zh⟩⟩
  case rest =>
   clear HC4
   try clear c1
   try clear p2
   try clear c3
   try clear c3b0
   try clear c3b1
   try clear c4
   try clear p5
   try clear q5
   try clear hx5
   try clear qi5
   try clear p6
   try clear c7
   try clear c9
   try clear c9b0
   try clear c10
   try clear hcz11_0
   try clear hcz11_1
   try clear hcz8_0
   try clear hcz8_1
   try clear hfz11_0
   try clear hfz11_1
   try clear hfz8_0
   try clear hfz8_1
   try clear hx513_0
   try clear hx513_1
   try clear p513
   try clear q513
   obtain ⟨kq, x512000_3, HA, HJ3, BK511, BK512, HB⟩ := hcut
   cases kq with
   | zero => exact absurd HA.out (by simp [agoniclaw05_course.j0])
   | succ kj3 =>
    have H := HA.out
    clear HA
    simp only [agoniclaw05_course.j0] at H
    have H' := Aside0.mk H
    clear H
    go_wp2
    repeat (go_quiet (fail); try go_wp2)
    go_loopg [29] kj3 (fun kq v29 w' => ∃ (x29_2 : Int) (x513000_2 : Int) (x513001_2 : Int), v29 = .int .i64 x29_2 ∧ Aside0 (agoniclaw05_course.l0 kq l0 (l0.length : Int) x29_2 x512000_3 a1_1 = some (r1, r2, r3)) ∧ Aside0 (kq ≤ kj3) ∧ Aside0 (w'.heap[gb511]? = some (.cells #[.int .i64 x512000_3, .int .i64 a1_1] 29 (0, 0))) ∧ Aside0 (w'.heap[gb512]? = some (.cells #[.int .i64 x513000_2, .int .i64 x513001_2] 29 (0, 0))) ∧ Aside0 (Below w.heap.size w w'))
    case atStart => exact ⟨(0), (0), (0), (by first | rfl | (simp; done) | (simp [*]; done)), H', ⟨Nat.le_refl _⟩, ⟨by refine zm ?_; exact BK511.out⟩, ⟨by refine zm ?_; exact BK512.out⟩, ⟨zh⟩⟩
    case round =>
     clear H'
     try clear c1
     try clear p2
     try clear c3
     try clear c3b0
     try clear c3b1
     try clear c4
     try clear p5
     try clear q5
     try clear hx5
     try clear qi5
     try clear p6
     try clear c7
     try clear c9
     try clear c9b0
     try clear c10
     try clear hcz11_0
     try clear hcz11_1
     try clear hcz8_0
     try clear hcz8_1
     try clear hfz11_0
     try clear hfz11_1
     try clear hfz8_0
     try clear hfz8_1
     try clear hx513_0
     try clear hx513_1
     try clear p2
     try clear p5
     try clear p513
     try clear p6
     try clear q5
     try clear q513
     obtain ⟨x29_2, x513000_2, x513001_2, rfl, HA, HK2, BK511, BK512, HB⟩ := hrel
     cases gk with
     | zero => exact absurd HA.out (by simp [agoniclaw05_course.l0])
     | succ k2 =>
      have H := HA.out
      clear HA
      simp only [agoniclaw05_course.l0] at H
      by_cases c12 : x29_2 < (l0.length : Int)
      ·rw [if_pos c12] at H
       have c12b0 : decide (x29_2 < (l0.length : Int)) = true := decide_eq_true c12
       clear c12
       replace H := zi H
       obtain ⟨⟨t516, t517, t518, t519⟩, A130, H⟩ := H
       try dsimp only at H
       have A13 := Aside0.mk A130
       clear A130
       by_cases c14 : x512000_3 ≥ (wrap64 (t518 * a1_1))
       ·rw [if_pos c14] at H
        have c14b0 : decide ((wrap64 (t518 * a1_1)) ≤ x512000_3) = true := decide_eq_true c14
        clear c14
        have H' := Aside0.mk H
        clear H
        go_wp2_with (first | (go_at_call 38; (with_reducible refine (agoniclaw05_ends.calls _ _ l0 x29_2 t516 t517 t518 t519 _ ?side1 ?side2 A13.out).mono ?_); (case side1 => exact zc (Kd.C_below HR0.out HB.out)); (case side2 => exact HC0.out); rintro e w15 ⟨rfl, hb⟩; replace BK511 := zk BK511 hb; replace BK512 := zk BK512 hb; replace HB := zd hb; (try clear hb)) | ((with_reducible refine gD 7 rfl ?_); refine zx 7 #[.int .i64 0, .int .i64 0] 55 ?_; intro gb520 hg w16 hbox hb; have BK520 := Aside0.mk (hbox); have GE520 := zG w hg; replace HB := zd hb; have NB511_520 := zN BK511 hg; have NB520_511 := zM BK511 hg; replace BK511 := zk BK511 hb; have NB512_520 := zN BK512 hg; have NB520_512 := zM BK512 hg; replace BK512 := zk BK512 hb; clear hb hbox hg) | ((with_reducible refine gD 8 rfl ?_); refine zx 8 #[.int .i64 0, .int .i64 0] 55 ?_; intro gb521 hg w17 hbox hb; have BK521 := Aside0.mk (hbox); have GE521 := zG w hg; replace HB := zd hb; have NB511_521 := zN BK511 hg; have NB521_511 := zM BK511 hg; replace BK511 := zk BK511 hb; have NB512_521 := zN BK512 hg; have NB521_512 := zM BK512 hg; replace BK512 := zk BK512 hb; have NB520_521 := zN BK520 hg; have NB521_520 := zM BK520 hg; replace BK520 := zk BK520 hb; clear hb hbox hg; have hnb18 := NB520_511.out; have hnc18 := NB511_520.out; have hnb19 := NB520_512.out; have hnc19 := NB512_520.out; have hnb20 := NB520_521.out; have hnc20 := NB521_520.out; have hcz21_0 : w17.cell? ⟨gb520, 0, none⟩ = some (.int .i64 0) := zy BK520 0; have hcz21_1 : w17.cell? ⟨gb520, 1, none⟩ = some (.int .i64 0) := zy BK520 1; have hfz21_0 := blk_frozen BK520.out 0; have hfz21_1 := blk_frozen BK520.out 1; have hnb22 := NB521_511.out; have hnc22 := NB511_521.out; have hnb23 := NB521_512.out; have hnc23 := NB512_521.out; have hcz24_0 : w17.cell? ⟨gb521, 0, none⟩ = some (.int .i64 0) := zy BK521 0; have hcz24_1 : w17.cell? ⟨gb521, 1, none⟩ = some (.int .i64 0) := zy BK521 1; have hfz24_0 := blk_frozen BK521.out 0; have hfz24_1 := blk_frozen BK521.out 1; have hnb25 := NB511_512.out; have hnc25 := NB512_511.out; have hcz26_0 : w17.cell? ⟨gb511, 0, none⟩ = some (.int .i64 x512000_3) := zy BK511 0; have hcz26_1 : w17.cell? ⟨gb511, 1, none⟩ = some (.int .i64 a1_1) := zy BK511 1; have hfz26_0 := blk_frozen BK511.out 0; have hfz26_1 := blk_frozen BK511.out 1))
        repeat (go_quiet (first | (go_at_call 38; (with_reducible refine (agoniclaw05_ends.calls _ _ l0 x29_2 t516 t517 t518 t519 _ ?side1 ?side2 A13.out).mono ?_); (case side1 => exact zc (Kd.C_below HR0.out HB.out)); (case side2 => exact HC0.out); rintro e w15 ⟨rfl, hb⟩; replace BK511 := zk BK511 hb; replace BK512 := zk BK512 hb; replace HB := zd hb; (try clear hb)) | ((with_reducible refine gD 7 rfl ?_); refine zx 7 #[.int .i64 0, .int .i64 0] 55 ?_; intro gb520 hg w16 hbox hb; have BK520 := Aside0.mk (hbox); have GE520 := zG w hg; replace HB := zd hb; have NB511_520 := zN BK511 hg; have NB520_511 := zM BK511 hg; replace BK511 := zk BK511 hb; have NB512_520 := zN BK512 hg; have NB520_512 := zM BK512 hg; replace BK512 := zk BK512 hb; clear hb hbox hg) | ((with_reducible refine gD 8 rfl ?_); refine zx 8 #[.int .i64 0, .int .i64 0] 55 ?_; intro gb521 hg w17 hbox hb; have BK521 := Aside0.mk (hbox); have GE521 := zG w hg; replace HB := zd hb; have NB511_521 := zN BK511 hg; have NB521_511 := zM BK511 hg; replace BK511 := zk BK511 hb; have NB512_521 := zN BK512 hg; have NB521_512 := zM BK512 hg; replace BK512 := zk BK512 hb; have NB520_521 := zN BK520 hg; have NB521_520 := zM BK520 hg; replace BK520 := zk BK520 hb; clear hb hbox hg; have hnb18 := NB520_511.out; have hnc18 := NB511_520.out; have hnb19 := NB520_512.out; have hnc19 := NB512_520.out; have hnb20 := NB520_521.out; have hnc20 := NB521_520.out; have hcz21_0 : w17.cell? ⟨gb520, 0, none⟩ = some (.int .i64 0) := zy BK520 0; have hcz21_1 : w17.cell? ⟨gb520, 1, none⟩ = some (.int .i64 0) := zy BK520 1; have hfz21_0 := blk_frozen BK520.out 0; have hfz21_1 := blk_frozen BK520.out 1; have hnb22 := NB521_511.out; have hnc22 := NB511_521.out; have hnb23 := NB521_512.out; have hnc23 := NB512_521.out; have hcz24_0 : w17.cell? ⟨gb521, 0, none⟩ = some (.int .i64 0) := zy BK521 0; have hcz24_1 : w17.cell? ⟨gb521, 1, none⟩ = some (.int .i64 0) := zy BK521 1; have hfz24_0 := blk_frozen BK521.out 0; have hfz24_1 := blk_frozen BK521.out 1; have hnb25 := NB511_512.out; have hnc25 := NB512_511.out; have hcz26_0 : w17.cell? ⟨gb511, 0, none⟩ = some (.int .i64 x512000_3) := zy BK511 0; have hcz26_1 : w17.cell? ⟨gb511, 1, none⟩ = some (.int .i64 a1_1) := zy BK511 1; have hfz26_0 := blk_frozen BK511.out 0; have hfz26_1 := blk_frozen BK511.out 1)); try go_wp2_with (first | (go_at_call 38; (with_reducible refine (agoniclaw05_ends.calls _ _ l0 x29_2 t516 t517 t518 t519 _ ?side1 ?side2 A13.out).mono ?_); (case side1 => exact zc (Kd.C_below HR0.out HB.out)); (case side2 => exact HC0.out); rintro e w15 ⟨rfl, hb⟩; replace BK511 := zk BK511 hb; replace BK512 := zk BK512 hb; replace HB := zd hb; (try clear hb)) | ((with_reducible refine gD 7 rfl ?_); refine zx 7 #[.int .i64 0, .int .i64 0] 55 ?_; intro gb520 hg w16 hbox hb; have BK520 := Aside0.mk (hbox); have GE520 := zG w hg; replace HB := zd hb; have NB511_520 := zN BK511 hg; have NB520_511 := zM BK511 hg; replace BK511 := zk BK511 hb; have NB512_520 := zN BK512 hg; have NB520_512 := zM BK512 hg; replace BK512 := zk BK512 hb; clear hb hbox hg) | ((with_reducible refine gD 8 rfl ?_); refine zx 8 #[.int .i64 0, .int .i64 0] 55 ?_; intro gb521 hg w17 hbox hb; have BK521 := Aside0.mk (hbox); have GE521 := zG w hg; replace HB := zd hb; have NB511_521 := zN BK511 hg; have NB521_511 := zM BK511 hg; replace BK511 := zk BK511 hb; have NB512_521 := zN BK512 hg; have NB521_512 := zM BK512 hg; replace BK512 := zk BK512 hb; have NB520_521 := zN BK520 hg; have NB521_520 := zM BK520 hg; replace BK520 := zk BK520 hb; clear hb hbox hg; have hnb18 := NB520_511.out; have hnc18 := NB511_520.out; have hnb19 := NB520_512.out; have hnc19 := NB512_520.out; have hnb20 := NB520_521.out; have hnc20 := NB521_520.out; have hcz21_0 : w17.cell? ⟨gb520, 0, none⟩ = some (.int .i64 0) := zy BK520 0; have hcz21_1 : w17.cell? ⟨gb520, 1, none⟩ = some (.int .i64 0) := zy BK520 1; have hfz21_0 := blk_frozen BK520.out 0; have hfz21_1 := blk_frozen BK520.out 1; have hnb22 := NB521_511.out; have hnc22 := NB511_521.out; have hnb23 := NB521_512.out; have hnc23 := NB512_521.out; have hcz24_0 : w17.cell? ⟨gb521, 0, none⟩ = some (.int .i64 0) := zy BK521 0; have hcz24_1 : w17.cell? ⟨gb521, 1, none⟩ = some (.int .i64 0) := zy BK521 1; have hfz24_0 := blk_frozen BK521.out 0; have hfz24_1 := blk_frozen BK521.out 1; have hnb25 := NB511_512.out; have hnc25 := NB512_511.out; have hcz26_0 : w17.cell? ⟨gb511, 0, none⟩ = some (.int .i64 x512000_3) := zy BK511 0; have hcz26_1 : w17.cell? ⟨gb511, 1, none⟩ = some (.int .i64 a1_1) := zy BK511 1; have hfz26_0 := blk_frozen BK511.out 0; have hfz26_1 := blk_frozen BK511.out 1)))
        go_roundg k2
        case measure => have := HJ3.out; have := HK2.out; omega
        case rel => exact ⟨(wrap64 (x29_2 + 1)), (x513000_2), (x513001_2), (by first | rfl | (simp; done) | (simp [*]; done)), H', ⟨by have := HJ3.out; have := HK2.out; omega⟩, ⟨by refine zm ?_; refine blk_far ?_ NB511_521.out _; refine zm ?_; refine blk_far ?_ NB511_521.out _; refine zm ?_; refine blk_far ?_ NB511_520.out _; refine zm ?_; refine blk_far ?_ NB511_520.out _; refine zm ?_; exact BK511.out⟩, ⟨by refine zm ?_; refine blk_far ?_ NB512_521.out _; refine zm ?_; refine blk_far ?_ NB512_521.out _; refine zm ?_; refine blk_far ?_ NB512_520.out _; refine zm ?_; refine blk_far ?_ NB512_520.out _; refine zm ?_; exact BK512.out⟩, ⟨zh⟩⟩
       ·rw [if_neg c14] at H
        have c14b0 : decide ((wrap64 (t518 * a1_1)) ≤ x512000_3) = false := decide_eq_false c14
        clear c14
        replace H := zi H
        obtain ⟨⟨t522, t523⟩, A270, H⟩ := H
        try dsimp only at H
        have A27 := Aside0.mk A270
        clear A270
        simp only [Option.some.injEq, Prod.mk.injEq] at H
        obtain ⟨rfl, rfl, rfl⟩ := H
        go_wp2_with (first | (go_at_call 38; (with_reducible refine (agoniclaw05_ends.calls _ _ l0 x29_2 t516 t517 t518 t519 _ ?side1 ?side2 A13.out).mono ?_); (case side1 => exact zc (Kd.C_below HR0.out HB.out)); (case side2 => exact HC0.out); rintro e w28 ⟨rfl, hb⟩; replace BK511 := zk BK511 hb; replace BK512 := zk BK512 hb; replace HB := zd hb; (try clear hb)) | ((with_reducible refine gD 7 rfl ?_); refine zx 7 #[.int .i64 0, .int .i64 0] 55 ?_; intro gb520 hg w29 hbox hb; have BK520 := Aside0.mk (hbox); have GE520 := zG w hg; replace HB := zd hb; have NB511_520 := zN BK511 hg; have NB520_511 := zM BK511 hg; replace BK511 := zk BK511 hb; have NB512_520 := zN BK512 hg; have NB520_512 := zM BK512 hg; replace BK512 := zk BK512 hb; clear hb hbox hg) | ((with_reducible refine gD 8 rfl ?_); refine zx 8 #[.int .i64 0, .int .i64 0] 55 ?_; intro gb521 hg w30 hbox hb; have BK521 := Aside0.mk (hbox); have GE521 := zG w hg; replace HB := zd hb; have NB511_521 := zN BK511 hg; have NB521_511 := zM BK511 hg; replace BK511 := zk BK511 hb; have NB512_521 := zN BK512 hg; have NB521_512 := zM BK512 hg; replace BK512 := zk BK512 hb; have NB520_521 := zN BK520 hg; have NB521_520 := zM BK520 hg; replace BK520 := zk BK520 hb; clear hb hbox hg; have hnb31 := NB520_511.out; have hnc31 := NB511_520.out; have hnb32 := NB520_512.out; have hnc32 := NB512_520.out; have hnb33 := NB520_521.out; have hnc33 := NB521_520.out; have hcz34_0 : w30.cell? ⟨gb520, 0, none⟩ = some (.int .i64 0) := zy BK520 0; have hcz34_1 : w30.cell? ⟨gb520, 1, none⟩ = some (.int .i64 0) := zy BK520 1; have hfz34_0 := blk_frozen BK520.out 0; have hfz34_1 := blk_frozen BK520.out 1; have hnb35 := NB521_511.out; have hnc35 := NB511_521.out; have hnb36 := NB521_512.out; have hnc36 := NB512_521.out; have hcz37_0 : w30.cell? ⟨gb521, 0, none⟩ = some (.int .i64 0) := zy BK521 0; have hcz37_1 : w30.cell? ⟨gb521, 1, none⟩ = some (.int .i64 0) := zy BK521 1; have hfz37_0 := blk_frozen BK521.out 0; have hfz37_1 := blk_frozen BK521.out 1; have hnb38 := NB511_512.out; have hnc38 := NB512_511.out; have hcz39_0 : w30.cell? ⟨gb511, 0, none⟩ = some (.int .i64 x512000_3) := zy BK511 0; have hcz39_1 : w30.cell? ⟨gb511, 1, none⟩ = some (.int .i64 a1_1) := zy BK511 1; have hfz39_0 := blk_frozen BK511.out 0; have hfz39_1 := blk_frozen BK511.out 1) | (go_at_call 43; (with_reducible refine (agoniclaw05_part.calls (wrap64 ((wrap64 ((wrap64 (x512000_3 * (wrap64 (t518 - t516)))) + (wrap64 ((wrap64 (t517 * (wrap64 (t518 - t516)))) * a1_1)))) + (wrap64 ((wrap64 (t519 - t517)) * (wrap64 (x512000_3 - (wrap64 (t516 * a1_1)))))))) (wrap64 ((wrap64 (t518 - t516)) * a1_1)) t522 t523 _ A27.out).mono ?_); rintro e w40 ⟨rfl, hb⟩; replace BK511 := Aside0.mk (blk_below (g := gb511) (o := .cells #[.int .i64 x512000_3, .int .i64 a1_1] 29 (0, 0)) (by refine zm ?_; refine blk_far ?_ NB511_521.out _; refine zm ?_; refine blk_far ?_ NB511_521.out _; refine zm ?_; refine blk_far ?_ NB511_520.out _; refine zm ?_; refine blk_far ?_ NB511_520.out _; refine zm ?_; exact BK511.out) hb); replace BK512 := Aside0.mk (blk_below (g := gb512) (o := .cells #[.int .i64 x513000_2, .int .i64 x513001_2] 29 (0, 0)) (by refine zm ?_; refine blk_far ?_ NB512_521.out _; refine zm ?_; refine blk_far ?_ NB512_521.out _; refine zm ?_; refine blk_far ?_ NB512_520.out _; refine zm ?_; refine blk_far ?_ NB512_520.out _; refine zm ?_; exact BK512.out) hb); replace BK520 := Aside0.mk (blk_below (g := gb520) (o := .cells #[.int .i64 t516, .int .i64 t517] 55 (0, 0)) (by refine zm ?_; refine blk_far ?_ NB520_521.out _; refine zm ?_; refine blk_far ?_ NB520_521.out _; refine zm ?_; refine blk_put (cs := #[.int .i64 t516, .int .i64 0]) ?_ 1 _ rfl; refine zm ?_; refine blk_put (cs := #[.int .i64 0, .int .i64 0]) ?_ 0 _ rfl; refine zm ?_; exact BK520.out) hb); replace BK521 := Aside0.mk (blk_below (g := gb521) (o := .cells #[.int .i64 t518, .int .i64 t519] 55 (0, 0)) (by refine zm ?_; refine blk_put (cs := #[.int .i64 t518, .int .i64 0]) ?_ 1 _ rfl; refine zm ?_; refine blk_put (cs := #[.int .i64 0, .int .i64 0]) ?_ 0 _ rfl; refine zm ?_; refine blk_far ?_ NB521_520.out _; refine zm ?_; refine blk_far ?_ NB521_520.out _; refine zm ?_; exact BK521.out) hb); replace HB := zd hb; (try clear hb); have hcz41_0 : w40.cell? ⟨gb512, 0, none⟩ = some (.int .i64 x513000_2) := zy BK512 0; have hcz41_1 : w40.cell? ⟨gb512, 1, none⟩ = some (.int .i64 x513001_2) := zy BK512 1; have hfz41_0 := blk_frozen BK512.out 0; have hfz41_1 := blk_frozen BK512.out 1))
        repeat (go_quiet (first | (go_at_call 38; (with_reducible refine (agoniclaw05_ends.calls _ _ l0 x29_2 t516 t517 t518 t519 _ ?side1 ?side2 A13.out).mono ?_); (case side1 => exact zc (Kd.C_below HR0.out HB.out)); (case side2 => exact HC0.out); rintro e w28 ⟨rfl, hb⟩; replace BK511 := zk BK511 hb; replace BK512 := zk BK512 hb; replace HB := zd hb; (try clear hb)) | ((with_reducible refine gD 7 rfl ?_); refine zx 7 #[.int .i64 0, .int .i64 0] 55 ?_; intro gb520 hg w29 hbox hb; have BK520 := Aside0.mk (hbox); have GE520 := zG w hg; replace HB := zd hb; have NB511_520 := zN BK511 hg; have NB520_511 := zM BK511 hg; replace BK511 := zk BK511 hb; have NB512_520 := zN BK512 hg; have NB520_512 := zM BK512 hg; replace BK512 := zk BK512 hb; clear hb hbox hg) | ((with_reducible refine gD 8 rfl ?_); refine zx 8 #[.int .i64 0, .int .i64 0] 55 ?_; intro gb521 hg w30 hbox hb; have BK521 := Aside0.mk (hbox); have GE521 := zG w hg; replace HB := zd hb; have NB511_521 := zN BK511 hg; have NB521_511 := zM BK511 hg; replace BK511 := zk BK511 hb; have NB512_521 := zN BK512 hg; have NB521_512 := zM BK512 hg; replace BK512 := zk BK512 hb; have NB520_521 := zN BK520 hg; have NB521_520 := zM BK520 hg; replace BK520 := zk BK520 hb; clear hb hbox hg; have hnb31 := NB520_511.out; have hnc31 := NB511_520.out; have hnb32 := NB520_512.out; have hnc32 := NB512_520.out; have hnb33 := NB520_521.out; have hnc33 := NB521_520.out; have hcz34_0 : w30.cell? ⟨gb520, 0, none⟩ = some (.int .i64 0) := zy BK520 0; have hcz34_1 : w30.cell? ⟨gb520, 1, none⟩ = some (.int .i64 0) := zy BK520 1; have hfz34_0 := blk_frozen BK520.out 0; have hfz34_1 := blk_frozen BK520.out 1; have hnb35 := NB521_511.out; have hnc35 := NB511_521.out; have hnb36 := NB521_512.out; have hnc36 := NB512_521.out; have hcz37_0 : w30.cell? ⟨gb521, 0, none⟩ = some (.int .i64 0) := zy BK521 0; have hcz37_1 : w30.cell? ⟨gb521, 1, none⟩ = some (.int .i64 0) := zy BK521 1; have hfz37_0 := blk_frozen BK521.out 0; have hfz37_1 := blk_frozen BK521.out 1; have hnb38 := NB511_512.out; have hnc38 := NB512_511.out; have hcz39_0 : w30.cell? ⟨gb511, 0, none⟩ = some (.int .i64 x512000_3) := zy BK511 0; have hcz39_1 : w30.cell? ⟨gb511, 1, none⟩ = some (.int .i64 a1_1) := zy BK511 1; have hfz39_0 := blk_frozen BK511.out 0; have hfz39_1 := blk_frozen BK511.out 1) | (go_at_call 43; (with_reducible refine (agoniclaw05_part.calls (wrap64 ((wrap64 ((wrap64 (x512000_3 * (wrap64 (t518 - t516)))) + (wrap64 ((wrap64 (t517 * (wrap64 (t518 - t516)))) * a1_1)))) + (wrap64 ((wrap64 (t519 - t517)) * (wrap64 (x512000_3 - (wrap64 (t516 * a1_1)))))))) (wrap64 ((wrap64 (t518 - t516)) * a1_1)) t522 t523 _ A27.out).mono ?_); rintro e w40 ⟨rfl, hb⟩; replace BK511 := Aside0.mk (blk_below (g := gb511) (o := .cells #[.int .i64 x512000_3, .int .i64 a1_1] 29 (0, 0)) (by refine zm ?_; refine blk_far ?_ NB511_521.out _; refine zm ?_; refine blk_far ?_ NB511_521.out _; refine zm ?_; refine blk_far ?_ NB511_520.out _; refine zm ?_; refine blk_far ?_ NB511_520.out _; refine zm ?_; exact BK511.out) hb); replace BK512 := Aside0.mk (blk_below (g := gb512) (o := .cells #[.int .i64 x513000_2, .int .i64 x513001_2] 29 (0, 0)) (by refine zm ?_; refine blk_far ?_ NB512_521.out _; refine zm ?_; refine blk_far ?_ NB512_521.out _; refine zm ?_; refine blk_far ?_ NB512_520.out _; refine zm ?_; refine blk_far ?_ NB512_520.out _; refine zm ?_; exact BK512.out) hb); replace BK520 := Aside0.mk (blk_below (g := gb520) (o := .cells #[.int .i64 t516, .int .i64 t517] 55 (0, 0)) (by refine zm ?_; refine blk_far ?_ NB520_521.out _; refine zm ?_; refine blk_far ?_ NB520_521.out _; refine zm ?_; refine blk_put (cs := #[.int .i64 t516, .int .i64 0]) ?_ 1 _ rfl; refine zm ?_; refine blk_put (cs := #[.int .i64 0, .int .i64 0]) ?_ 0 _ rfl; refine zm ?_; exact BK520.out) hb); replace BK521 := Aside0.mk (blk_below (g := gb521) (o := .cells #[.int .i64 t518, .int .i64 t519] 55 (0, 0)) (by refine zm ?_; refine blk_put (cs := #[.int .i64 t518, .int .i64 0]) ?_ 1 _ rfl; refine zm ?_; refine blk_put (cs := #[.int .i64 0, .int .i64 0]) ?_ 0 _ rfl; refine zm ?_; refine blk_far ?_ NB521_520.out _; refine zm ?_; refine blk_far ?_ NB521_520.out _; refine zm ?_; exact BK521.out) hb); replace HB := zd hb; (try clear hb); have hcz41_0 : w40.cell? ⟨gb512, 0, none⟩ = some (.int .i64 x513000_2) := zy BK512 0; have hcz41_1 : w40.cell? ⟨gb512, 1, none⟩ = some (.int .i64 x513001_2) := zy BK512 1; have hfz41_0 := blk_frozen BK512.out 0; have hfz41_1 := blk_frozen BK512.out 1)); try go_wp2_with (first | (go_at_call 38; (with_reducible refine (agoniclaw05_ends.calls _ _ l0 x29_2 t516 t517 t518 t519 _ ?side1 ?side2 A13.out).mono ?_); (case side1 => exact zc (Kd.C_below HR0.out HB.out)); (case side2 => exact HC0.out); rintro e w28 ⟨rfl, hb⟩; replace BK511 := zk BK511 hb; replace BK512 := zk BK512 hb; replace HB := zd hb; (try clear hb)) | ((with_reducible refine gD 7 rfl ?_); refine zx 7 #[.int .i64 0, .int .i64 0] 55 ?_; intro gb520 hg w29 hbox hb; have BK520 := Aside0.mk (hbox); have GE520 := zG w hg; replace HB := zd hb; have NB511_520 := zN BK511 hg; have NB520_511 := zM BK511 hg; replace BK511 := zk BK511 hb; have NB512_520 := zN BK512 hg; have NB520_512 := zM BK512 hg; replace BK512 := zk BK512 hb; clear hb hbox hg) | ((with_reducible refine gD 8 rfl ?_); refine zx 8 #[.int .i64 0, .int .i64 0] 55 ?_; intro gb521 hg w30 hbox hb; have BK521 := Aside0.mk (hbox); have GE521 := zG w hg; replace HB := zd hb; have NB511_521 := zN BK511 hg; have NB521_511 := zM BK511 hg; replace BK511 := zk BK511 hb; have NB512_521 := zN BK512 hg; have NB521_512 := zM BK512 hg; replace BK512 := zk BK512 hb; have NB520_521 := zN BK520 hg; have NB521_520 := zM BK520 hg; replace BK520 := zk BK520 hb; clear hb hbox hg; have hnb31 := NB520_511.out; have hnc31 := NB511_520.out; have hnb32 := NB520_512.out; have hnc32 := NB512_520.out; have hnb33 := NB520_521.out; have hnc33 := NB521_520.out; have hcz34_0 : w30.cell? ⟨gb520, 0, none⟩ = some (.int .i64 0) := zy BK520 0; have hcz34_1 : w30.cell? ⟨gb520, 1, none⟩ = some (.int .i64 0) := zy BK520 1; have hfz34_0 := blk_frozen BK520.out 0; have hfz34_1 := blk_frozen BK520.out 1; have hnb35 := NB521_511.out; have hnc35 := NB511_521.out; have hnb36 := NB521_512.out; have hnc36 := NB512_521.out; have hcz37_0 : w30.cell? ⟨gb521, 0, none⟩ = some (.int .i64 0) := zy BK521 0; have hcz37_1 : w30.cell? ⟨gb521, 1, none⟩ = some (.int .i64 0) := zy BK521 1; have hfz37_0 := blk_frozen BK521.out 0; have hfz37_1 := blk_frozen BK521.out 1; have hnb38 := NB511_512.out; have hnc38 := NB512_511.out; have hcz39_0 : w30.cell? ⟨gb511, 0, none⟩ = some (.int .i64 x512000_3) := zy BK511 0; have hcz39_1 : w30.cell? ⟨gb511, 1, none⟩ = some (.int .i64 a1_1) := zy BK511 1; have hfz39_0 := blk_frozen BK511.out 0; have hfz39_1 := blk_frozen BK511.out 1) | (go_at_call 43; (with_reducible refine (agoniclaw05_part.calls (wrap64 ((wrap64 ((wrap64 (x512000_3 * (wrap64 (t518 - t516)))) + (wrap64 ((wrap64 (t517 * (wrap64 (t518 - t516)))) * a1_1)))) + (wrap64 ((wrap64 (t519 - t517)) * (wrap64 (x512000_3 - (wrap64 (t516 * a1_1)))))))) (wrap64 ((wrap64 (t518 - t516)) * a1_1)) t522 t523 _ A27.out).mono ?_); rintro e w40 ⟨rfl, hb⟩; replace BK512 := Aside0.mk (blk_below (g := gb512) (o := .cells #[.int .i64 x513000_2, .int .i64 x513001_2] 29 (0, 0)) (by refine zm ?_; refine blk_far ?_ NB512_521.out _; refine zm ?_; refine blk_far ?_ NB512_521.out _; refine zm ?_; refine blk_far ?_ NB512_520.out _; refine zm ?_; refine blk_far ?_ NB512_520.out _; refine zm ?_; exact BK512.out) hb); replace HB := zd hb; (try clear hb); have hcz41_0 : w40.cell? ⟨gb512, 0, none⟩ = some (.int .i64 x513000_2) := zy BK512 0; have hcz41_1 : w40.cell? ⟨gb512, 1, none⟩ = some (.int .i64 x513001_2) := zy BK512 1; have hfz41_0 := blk_frozen BK512.out 0; have hfz41_1 := blk_frozen BK512.out 1)))
        refine bodyPost_ret (results_ct rfl _ _ gb512 29 #[.int .i64 t522, .int .i64 t523] (0, 0) _ rfl (by refine zm ?_; refine blk_put (cs := #[.int .i64 t522, .int .i64 x513001_2]) ?_ 1 _ rfl; refine zm ?_; refine blk_put (cs := #[.int .i64 x513000_2, .int .i64 x513001_2]) ?_ 0 _ rfl; refine zm ?_; exact BK512.out) Try.underlying29 rfl (by kernel_rfl)) rfl ?_
        exact ⟨ze, zh⟩
      ·rw [if_neg c12] at H
       have c12b0 : decide (x29_2 < (l0.length : Int)) = false := decide_eq_false c12
       clear c12
       replace H := zi H
       obtain ⟨⟨t514, t515⟩, A420, H⟩ := H
       try dsimp only at H
       have A42 := Aside0.mk A420
       clear A420
       simp only [Option.some.injEq, Prod.mk.injEq] at H
       obtain ⟨rfl, rfl, rfl⟩ := H
       go_wp2_with (first | (go_at_call 43; (with_reducible refine (agoniclaw05_part.calls 0 1 t514 t515 _ A42.out).mono ?_); rintro e w43 ⟨rfl, hb⟩; replace BK512 := zk BK512 hb; replace HB := zd hb; (try clear hb); have hnb44 := NB512_511.out; have hnc44 := NB511_512.out; have hcz45_0 : w43.cell? ⟨gb512, 0, none⟩ = some (.int .i64 x513000_2) := zy BK512 0; have hcz45_1 : w43.cell? ⟨gb512, 1, none⟩ = some (.int .i64 x513001_2) := zy BK512 1; have hfz45_0 := blk_frozen BK512.out 0; have hfz45_1 := blk_frozen BK512.out 1))
       repeat (go_quiet (first | (go_at_call 43; (with_reducible refine (agoniclaw05_part.calls 0 1 t514 t515 _ A42.out).mono ?_); rintro e w43 ⟨rfl, hb⟩; replace BK512 := zk BK512 hb; replace HB := zd hb; (try clear hb); have hnb44 := NB512_511.out; have hnc44 := NB511_512.out; have hcz45_0 : w43.cell? ⟨gb512, 0, none⟩ = some (.int .i64 x513000_2) := zy BK512 0; have hcz45_1 : w43.cell? ⟨gb512, 1, none⟩ = some (.int .i64 x513001_2) := zy BK512 1; have hfz45_0 := blk_frozen BK512.out 0; have hfz45_1 := blk_frozen BK512.out 1)); try go_wp2_with (first | (go_at_call 43; (with_reducible refine (agoniclaw05_part.calls 0 1 t514 t515 _ A42.out).mono ?_); rintro e w43 ⟨rfl, hb⟩; replace BK512 := zk BK512 hb; replace HB := zd hb; (try clear hb); have hnb44 := NB512_511.out; have hnc44 := NB511_512.out; have hcz45_0 : w43.cell? ⟨gb512, 0, none⟩ = some (.int .i64 x513000_2) := zy BK512 0; have hcz45_1 : w43.cell? ⟨gb512, 1, none⟩ = some (.int .i64 x513001_2) := zy BK512 1; have hfz45_0 := blk_frozen BK512.out 0; have hfz45_1 := blk_frozen BK512.out 1)))
       refine bodyPost_ret (results_ct rfl _ _ gb512 29 #[.int .i64 t514, .int .i64 t515] (0, 0) _ rfl (by refine zm ?_; refine blk_put (cs := #[.int .i64 t514, .int .i64 x513001_2]) ?_ 1 _ rfl; refine zm ?_; refine blk_put (cs := #[.int .i64 x513000_2, .int .i64 x513001_2]) ?_ 0 _ rfl; refine zm ?_; exact BK512.out) Try.underlying29 rfl (by kernel_rfl)) rfl ?_
       exact ⟨ze, zh⟩
 ·rw [if_neg c3] at H
  exact absurd H (by simp)
end Go.Proofs.Ytccjefoejjnccaa.C
