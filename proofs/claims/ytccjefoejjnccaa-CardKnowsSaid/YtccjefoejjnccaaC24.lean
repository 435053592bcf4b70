-- Written by a program of this session (wip/tools/myprint.py, over the kit's print).
import Derived.Test.YtccjefoejjnccaaC0
import Derived.Test.YtccjefoejjnccaaC1
import Derived.Test.YtccjefoejjnccaaC2
import Derived.Test.YtccjefoejjnccaaC6
import Derived.Test.YtccjefoejjnccaaC7
import Derived.Test.YtccjefoejjnccaaC11
import Derived.Test.YtccjefoejjnccaaC9
import Derived.Test.YtccjefoejjnccaaC10
import Derived.Test.YtccjefoejjnccaaC16
import Derived.Test.YtccjefoejjnccaaC18
import Derived.Test.YtccjefoejjnccaaC21
import Derived.Test.YtccjefoejjnccaaH11
import Derived.Test.YtccjefoejjnccaaH13
import Derived.Test.YtccjefoejjnccaaH14
import Derived.Test.YtccjefoejjnccaaH6
import Derived.Test.YtccjefoejjnccaaH7
import Derived.Test.YtccjefoejjnccaaZ
namespace Go.Proofs.Ytccjefoejjnccaa.C
open Go.Proofs.Ytccjefoejjnccaa.H
open Go.RowKit Go.Proofs.YtccjefoejjnccaaW.PrintWords Go.Proofs.YtccjefoejjnccaaW.PrintLast Go.Proofs.YtccjefoejjnccaaW.PrintMore
attribute [local go_sem] max2_int min2_int max_two min_two max_three min_three max_four min_four   -- for this text's walks alone
set_option linter.unusedVariables false
set_option linter.unusedSimpArgs false
attribute [local go_sem high] eqA29 eqA55 eqA54
def agoniclaw05_CardKnows.f (k : Nat) (l0 : List (S92)) (a1 : Int) : Option (Bool) := if (l0.length : Int) > 60 then ((agoniclaw05_works.f).bind fun t607 => (some t607)) else ((agoniclaw05_known.f k l0).bind fun t608 => ((card_Within.f k l0 a1).bind fun bt611 => ((agonicref05_Within.f k t608 a1).bind fun bt618 => (if (bt611.1 == bt618.1 && (bt611.2.1 == bt618.2.1)) = true then (if (bt611.2.2.1 == bt618.2.2.1 && (bt611.2.2.2.1 == bt618.2.2.2.1)) = true then (if bt611.2.2.2.2 = bt618.2.2.2.2 then ((card_Sure.f k l0).bind fun t625 => ((agonicref05_Sure.f k t608).bind fun t626 => (if t625 = t626 then ((agoniclaw05_works.f).bind fun t627 => (some t627)) else (some false)))) else (some false)) else (some false)) else (some false)))))
set_option maxHeartbeats 8000000 in
set_option maxRecDepth 100000 in
theorem agoniclaw05_CardKnows.calls (k : Nat) (A0 : Option Addr) (c0 : Nat) (l0 : List (S92)) (a1 : Int) (r_ : Bool) (w : World) (hr0 : Kd.C k92 w A0 l0.length l0) (hc0 : l0.length ≤ c0) (h : agoniclaw05_CardKnows.f k l0 a1 = some true) :
  Calls Try.prog 6 #[.slice A0 l0.length c0, .int .i64 a1] w fun e w' => e = .returned (.bool true) ∧ Below w.heap.size w w' := by
 have hu29 := Try.underlying29
 have HR0 := Aside0.mk hr0
 have HC0 := Aside0.mk hc0
 clear hr0 hc0
 have HB := Aside0.mk (Below.refl w.heap.size w)
 have H : (if (l0.length : Int) > 60 then ((agoniclaw05_works.f).bind fun t607 => (some t607)) else ((agoniclaw05_known.f k l0).bind fun t608 => ((card_Within.f k l0 a1).bind fun bt611 => ((agonicref05_Within.f k t608 a1).bind fun bt618 => (if (bt611.1 == bt618.1 && (bt611.2.1 == bt618.2.1)) = true then (if (bt611.2.2.1 == bt618.2.2.1 && (bt611.2.2.2.1 == bt618.2.2.2.1)) = true then (if bt611.2.2.2.2 = bt618.2.2.2.2 then ((card_Sure.f k l0).bind fun t625 => ((agonicref05_Sure.f k t608).bind fun t626 => (if t625 = t626 then ((agoniclaw05_works.f).bind fun t627 => (some t627)) else (some false)))) else (some false)) else (some false)) else (some false)))))) = some true := h
 clear h
 by_cases c3 : (l0.length : Int) > 60
 ·rw [if_pos c3] at H
  have c3b0 : decide (60 < (l0.length : Int)) = true := decide_eq_true c3
  have c3b1 : decide (60 < l0.length) = true := decide_eq_true (by omega)
  clear c3
  replace H := zi H
  obtain ⟨t607, A40, H⟩ := H
  try dsimp only at H
  have A4 := Aside0.mk A40
  clear A40
  obtain rfl := Option.some.inj H
  go_enter Try.func6, Try.ntmps6
  go_wp2_with (first | ((with_reducible refine gC 14 rfl ?_); refine gL 15 Try.func14 #[] ?_; (with_reducible refine (agoniclaw05_works.calls  true _ A4.out).mono ?_); rintro e w5 ⟨rfl, hb⟩; refine ⟨_, rfl, ?_⟩; replace HB := zd hb; (try clear hb)))
  go_ret
  exact ⟨ze, zh⟩
 ·rw [if_neg c3] at H
  have c3b0 : decide (60 < (l0.length : Int)) = false := decide_eq_false c3
  have c3b1 : decide (60 < l0.length) = false := decide_eq_false (by omega)
  clear c3
  replace H := zi H
  obtain ⟨t608, A60, H⟩ := H
  try dsimp only at H
  have A6 := Aside0.mk A60
  clear A60
  replace H := zi H
  obtain ⟨⟨t611, t612, t613, t614, t615⟩, A70, H⟩ := H
  try dsimp only at H
  have A7 := Aside0.mk A70
  clear A70
  replace H := zi H
  obtain ⟨⟨t618, t619, t620, t621, t622⟩, A80, H⟩ := H
  try dsimp only at H
  have A8 := Aside0.mk A80
  clear A80
  by_cases c9 : (t611 == t618 && (t612 == t619)) = true
  ·rw [if_pos c9] at H
   have c9b0 : (t611 == t618 && (t612 == t619)) = true := c9
   (try (have c9b1 : decide (t611 = t618 && (t612 == t619)) = true := by simpa using c9))
   (try (have c9b2 : (t611 == t618 && (t612 == t619)) = true := by simpa using c9))
   clear c9
   by_cases c10 : (t613 == t620 && (t614 == t621)) = true
   ·rw [if_pos c10] at H
    have c10b0 : (t613 == t620 && (t614 == t621)) = true := c10
    (try (have c10b1 : decide (t613 = t620 && (t614 == t621)) = true := by simpa using c10))
    (try (have c10b2 : (t613 == t620 && (t614 == t621)) = true := by simpa using c10))
    clear c10
    by_cases c11 : t615 = t622
    ·rw [if_pos c11] at H
     have c11b0 : (t615 == t622) = true := beq_iff_eq.mpr c11
     have c11b1 : (t615 != t622) = false := bne_eq_false_iff_eq.mpr c11
     clear c11
     replace H := zi H
     obtain ⟨t625, A120, H⟩ := H
     try dsimp only at H
     have A12 := Aside0.mk A120
     clear A120
     replace H := zi H
     obtain ⟨t626, A130, H⟩ := H
     try dsimp only at H
     have A13 := Aside0.mk A130
     clear A130
     by_cases c14 : t625 = t626
     ·rw [if_pos c14] at H
      have c14b0 : (t625 == t626) = true := beq_iff_eq.mpr c14
      have c14b1 : (t625 != t626) = false := bne_eq_false_iff_eq.mpr c14
      clear c14
      replace H := zi H
      obtain ⟨t627, A150, H⟩ := H
      try dsimp only at H
      have A15 := Aside0.mk A150
      clear A150
      obtain rfl := Option.some.inj H
      go_enter Try.func6, Try.ntmps6
      go_wp2_with (first | ((with_reducible refine gC 32 rfl ?_); refine gL 17 Try.func32 #[.slice A0 l0.length c0] ?_; (with_reducible refine (agoniclaw05_known.calls k _ _ l0 t608 _ ?side1 ?side2 A6.out).mono ?_); (case side1 => exact zc HR0.out); (case side2 => exact HC0.out); rintro e w16 ⟨v609, rfl, ho0, hb⟩; refine ⟨_, rfl, ?_⟩; have HO610 := Aside0.mk (Kd.R_lower ho0 (below_size zh)); replace HB := zd hb; (try clear hb); (try clear ho0)) | ((with_reducible refine gC 33 rfl ?_); refine gL 21 Try.func33 #[.slice A0 l0.length c0, .int .i64 a1] ?_; (with_reducible refine (card_Within.calls k _ _ l0 a1 t611 t612 t613 t614 t615 _ ?side1 ?side2 A7.out).mono ?_); (case side1 => exact zc (Kd.C_below HR0.out HB.out)); (case side2 => exact HC0.out); rintro e w17 ⟨rfl, hb⟩; refine ⟨_, rfl, ?_⟩; replace HO610 := zr HO610 hb; replace HB := zd hb; (try clear hb)) | ((with_reducible refine gD 6 rfl ?_); refine zx 6 #[.int .i64 0, .int .i64 0] 29 ?_; intro gb616 hg w18 hbox hb; replace HO610 := zr HO610 hb; have BK616 := Aside0.mk (hbox); have GE616 := zG w hg; replace HB := zd hb; clear hb hbox hg) | ((with_reducible refine gD 7 rfl ?_); refine zx 7 #[.int .i64 0, .int .i64 0] 29 ?_; intro gb617 hg w19 hbox hb; replace HO610 := zr HO610 hb; have BK617 := Aside0.mk (hbox); have GE617 := zG w hg; replace HB := zd hb; have NB616_617 := zN BK616 hg; have NB617_616 := zM BK616 hg; replace BK616 := zk BK616 hb; clear hb hbox hg; have hnb20 := NB616_617.out; have hnc20 := NB617_616.out; have hcz21_0 : w19.cell? ⟨gb616, 0, none⟩ = some (.int .i64 0) := zy BK616 0; have hcz21_1 : w19.cell? ⟨gb616, 1, none⟩ = some (.int .i64 0) := zy BK616 1; have hfz21_0 := blk_frozen BK616.out 0; have hfz21_1 := blk_frozen BK616.out 1; have hcz22_0 : w19.cell? ⟨gb617, 0, none⟩ = some (.int .i64 0) := zy BK617 0; have hcz22_1 : w19.cell? ⟨gb617, 1, none⟩ = some (.int .i64 0) := zy BK617 1; have hfz22_0 := blk_frozen BK617.out 0; have hfz22_1 := blk_frozen BK617.out 1; obtain ⟨Ao23, co23, eo23⟩ := Kd.R_slice HO610.out; subst eo23) | ((with_reducible refine gC 34 rfl ?_); refine gL 28 Try.func34 #[.slice Ao23 t608.length co23, .int .i64 a1] ?_; (with_reducible refine (agonicref05_Within.calls k _ _ t608 a1 t618 t619 t620 t621 t622 _ ?side1 ?side2 A8.out).mono ?_); (case side1 => refine (Kd.R_reads' (e := 124) (base := w.heap.size) (ok := fun k_ => True) (n := t608.length) (c := co23) ?_).2.2; exact (by refine zl ?_; exact (Kd.R_mono (Kd.R_mono (Kd.R_far (p := ⟨gb617, 1, none⟩) (Kd.R_far (p := ⟨gb617, 0, none⟩) (Kd.R_far (p := ⟨gb616, 1, none⟩) (Kd.R_far (p := ⟨gb616, 0, none⟩) (Kd.R_types (Kd.R_types HO610.out BK616.out (by decide)) BK617.out (by decide)) (fun _ hk => hk.1.2) (.int .i64 t611)) (fun _ hk => hk.1.2) (.int .i64 t612)) (fun _ hk => hk.2) (.int .i64 t613)) (fun _ hk => hk.2) (.int .i64 t614)) (fun _ h_ => h_.1)) (fun _ h_ => h_.1)))); (case side2 => exact (Kd.R_reads' HO610.out).2.1); rintro e w24 ⟨rfl, hb⟩; refine ⟨_, rfl, ?_⟩; replace HO610 := Aside0.mk (Kd.R_below (by refine zl ?_; exact (Kd.R_mono (Kd.R_mono (Kd.R_far (p := ⟨gb617, 1, none⟩) (Kd.R_far (p := ⟨gb617, 0, none⟩) (Kd.R_far (p := ⟨gb616, 1, none⟩) (Kd.R_far (p := ⟨gb616, 0, none⟩) (Kd.R_types (Kd.R_types HO610.out BK616.out (by decide)) BK617.out (by decide)) (fun _ hk => hk.1.2) (.int .i64 t611)) (fun _ hk => hk.1.2) (.int .i64 t612)) (fun _ hk => hk.2) (.int .i64 t613)) (fun _ hk => hk.2) (.int .i64 t614)) (fun _ h_ => h_.1)) (fun _ h_ => h_.1))) hb); replace BK616 := Aside0.mk (blk_below (g := gb616) (o := .cells #[.int .i64 t611, .int .i64 t612] 29 (0, 0)) (by refine zm ?_; refine blk_far ?_ NB616_617.out _; refine zm ?_; refine blk_far ?_ NB616_617.out _; refine zm ?_; refine blk_put (cs := #[.int .i64 t611, .int .i64 0]) ?_ 1 _ rfl; refine zm ?_; refine blk_put (cs := #[.int .i64 0, .int .i64 0]) ?_ 0 _ rfl; refine zm ?_; exact BK616.out) hb); replace BK617 := Aside0.mk (blk_below (g := gb617) (o := .cells #[.int .i64 t613, .int .i64 t614] 29 (0, 0)) (by refine zm ?_; refine blk_put (cs := #[.int .i64 t613, .int .i64 0]) ?_ 1 _ rfl; refine zm ?_; refine blk_put (cs := #[.int .i64 0, .int .i64 0]) ?_ 0 _ rfl; refine zm ?_; refine blk_far ?_ NB617_616.out _; refine zm ?_; refine blk_far ?_ NB617_616.out _; refine zm ?_; exact BK617.out) hb); replace HB := zd hb; (try clear hb); (try clear hk)) | ((with_reducible refine gD 9 rfl ?_); refine zx 9 #[.int .i64 0, .int .i64 0] 29 ?_; intro gb623 hg w25 hbox hb; replace HO610 := zr HO610 hb; have BK623 := Aside0.mk (hbox); have GE623 := zG w hg; replace HB := zd hb; have NB616_623 := zN BK616 hg; have NB623_616 := zM BK616 hg; replace BK616 := zk BK616 hb; have NB617_623 := zN BK617 hg; have NB623_617 := zM BK617 hg; replace BK617 := zk BK617 hb; clear hb hbox hg) | ((with_reducible refine gD 10 rfl ?_); refine zx 10 #[.int .i64 0, .int .i64 0] 29 ?_; intro gb624 hg w26 hbox hb; replace HO610 := zr HO610 hb; have BK624 := Aside0.mk (hbox); have GE624 := zG w hg; replace HB := zd hb; have NB616_624 := zN BK616 hg; have NB624_616 := zM BK616 hg; replace BK616 := zk BK616 hb; have NB617_624 := zN BK617 hg; have NB624_617 := zM BK617 hg; replace BK617 := zk BK617 hb; have NB623_624 := zN BK623 hg; have NB624_623 := zM BK623 hg; replace BK623 := zk BK623 hb; clear hb hbox hg; have hnb27 := NB623_616.out; have hnc27 := NB616_623.out; have hnb28 := NB623_617.out; have hnc28 := NB617_623.out; have hnb29 := NB623_624.out; have hnc29 := NB624_623.out; have hcz30_0 : w26.cell? ⟨gb623, 0, none⟩ = some (.int .i64 0) := zy BK623 0; have hcz30_1 : w26.cell? ⟨gb623, 1, none⟩ = some (.int .i64 0) := zy BK623 1; have hfz30_0 := blk_frozen BK623.out 0; have hfz30_1 := blk_frozen BK623.out 1; have hnb31 := NB624_616.out; have hnc31 := NB616_624.out; have hnb32 := NB624_617.out; have hnc32 := NB617_624.out; have hcz33_0 : w26.cell? ⟨gb624, 0, none⟩ = some (.int .i64 0) := zy BK624 0; have hcz33_1 : w26.cell? ⟨gb624, 1, none⟩ = some (.int .i64 0) := zy BK624 1; have hfz33_0 := blk_frozen BK624.out 0; have hfz33_1 := blk_frozen BK624.out 1; have hcz34_0 : w26.cell? ⟨gb616, 0, none⟩ = some (.int .i64 t611) := zy BK616 0; have hcz34_1 : w26.cell? ⟨gb616, 1, none⟩ = some (.int .i64 t612) := zy BK616 1; have hfz34_0 := blk_frozen BK616.out 0; have hfz34_1 := blk_frozen BK616.out 1; have hcz35_0 : w26.cell? ⟨gb617, 0, none⟩ = some (.int .i64 t613) := zy BK617 0; have hcz35_1 : w26.cell? ⟨gb617, 1, none⟩ = some (.int .i64 t614) := zy BK617 1; have hfz35_0 := blk_frozen BK617.out 0; have hfz35_1 := blk_frozen BK617.out 1) | (go_at_call 35; (with_reducible refine (card_Sure.calls k _ _ l0 t625 _ ?side1 ?side2 A12.out).mono ?_); (case side1 => exact Kd.C_below HR0.out zh); (case side2 => exact HC0.out); rintro e w36 ⟨rfl, hb⟩; replace HO610 := Aside0.mk (Kd.R_below (by refine zl ?_; exact (Kd.R_mono (Kd.R_mono (Kd.R_far (p := ⟨gb624, 1, none⟩) (Kd.R_far (p := ⟨gb624, 0, none⟩) (Kd.R_far (p := ⟨gb623, 1, none⟩) (Kd.R_far (p := ⟨gb623, 0, none⟩) (Kd.R_types (Kd.R_types HO610.out BK623.out (by decide)) BK624.out (by decide)) (fun _ hk => hk.1.2) (.int .i64 t618)) (fun _ hk => hk.1.2) (.int .i64 t619)) (fun _ hk => hk.2) (.int .i64 t620)) (fun _ hk => hk.2) (.int .i64 t621)) (fun _ h_ => h_.1)) (fun _ h_ => h_.1))) hb); replace HB := zd hb; (try clear hb); (try clear hk)) | (go_at_call 36; (with_reducible refine (agonicref05_Sure.calls k _ _ t608 t626 _ ?side1 ?side2 A13.out).mono ?_); (case side1 => exact zc (Kd.R_reads' HO610.out).2.2); (case side2 => exact (Kd.R_reads' HO610.out).2.1); rintro e w37 ⟨rfl, hb⟩; replace HB := zd hb; (try clear hb)) | (go_at_call 14; (with_reducible refine (agoniclaw05_works.calls  true _ A15.out).mono ?_); rintro e w38 ⟨rfl, hb⟩; replace HB := zd hb; (try clear hb)))
      go_ret
      exact ⟨ze, zh⟩
     ·rw [if_neg c14] at H
      have c14b0 : (t625 == t626) = false := beq_eq_false_iff_ne.mpr c14
      have c14b1 : (t625 != t626) = true := bne_iff_ne.mpr c14
      exact absurd (Option.some.inj H) (by decide)
    ·rw [if_neg c11] at H
     have c11b0 : (t615 == t622) = false := beq_eq_false_iff_ne.mpr c11
     have c11b1 : (t615 != t622) = true := bne_iff_ne.mpr c11
     exact absurd (Option.some.inj H) (by decide)
   ·rw [if_neg c10] at H
    have c10b0 : (t613 == t620 && (t614 == t621)) = false := by simpa using c10
    (try (have c10b1 : decide (t613 = t620 && (t614 == t621)) = false := by simpa using c10))
    (try (have c10b2 : (t613 == t620 && (t614 == t621)) = false := by simpa using c10))
    (try (have c10b3 : ¬ (t613 = t620 && (t614 == t621)) := by simpa using c10))
    clear c10
    exact absurd (Option.some.inj H) (by decide)
  ·rw [if_neg c9] at H
   have c9b0 : (t611 == t618 && (t612 == t619)) = false := by simpa using c9
   (try (have c9b1 : decide (t611 = t618 && (t612 == t619)) = false := by simpa using c9))
   (try (have c9b2 : (t611 == t618 && (t612 == t619)) = false := by simpa using c9))
   (try (have c9b3 : ¬ (t611 = t618 && (t612 == t619)) := by simpa using c9))
   clear c9
   exact absurd (Option.some.inj H) (by decide)
-- NOT PRINTED: function 7 (agoniclaw05_CardOnce)
end Go.Proofs.Ytccjefoejjnccaa.C
