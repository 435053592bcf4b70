-- Written by a program of this session (wip/tools/myprint.py, over the kit's print).
import Derived.Test.YtccjefoejjnccaaC0
import Derived.Test.YtccjefoejjnccaaC1
import Derived.Test.YtccjefoejjnccaaC3
import Derived.Test.YtccjefoejjnccaaC4
import Derived.Test.YtccjefoejjnccaaC6
import Derived.Test.YtccjefoejjnccaaC7
import Derived.Test.YtccjefoejjnccaaC11
import Derived.Test.YtccjefoejjnccaaC12
import Derived.Test.YtccjefoejjnccaaC13
import Derived.Test.YtccjefoejjnccaaC21
import Derived.Test.YtccjefoejjnccaaH13
import Derived.Test.YtccjefoejjnccaaZ
namespace Go.Proofs.Ytccjefoejjnccaa.C
open Go.Proofs.Ytccjefoejjnccaa.H
open Go.RowKit Go.Proofs.YtccjefoejjnccaaW.PrintWords Go.Proofs.YtccjefoejjnccaaW.PrintLast Go.Proofs.YtccjefoejjnccaaW.PrintMore
attribute [local go_sem] max2_int min2_int max_two min_two max_three min_three max_four min_four   -- for this text's walks alone
set_option linter.unusedVariables false
set_option linter.unusedSimpArgs false
attribute [local go_sem high] eqA29
def agoniclaw05_CardCourses.f (k : Nat) (l0 : List (S55)) (a1 : Int) : Option (Bool) := if (l0.length : Int) > 60 then ((agoniclaw05_works.f).bind fun t554 => (some t554)) else ((agoniclaw05_given.f k l0).bind fun t555 => ((card_Courses.f k l0 a1).bind fun bt558 => ((agonicref05_Courses.f k t555 a1).bind fun bt562 => ((card_Allowance.f k l0 a1).bind fun bt566 => ((agonicref05_Allowance.f k t555 a1).bind fun bt570 => ((agoniclaw05_ratios.f k bt558.1 bt562.1).bind fun t574 => (if t574 = true then (if bt558.2 = bt562.2 then (if (bt566.1 == bt570.1 && (bt566.2.1 == bt570.2.1)) = true then (if bt566.2.2 = bt570.2.2 then ((agoniclaw05_works.f).bind fun t575 => (some t575)) else (some false)) else (some false)) else (some false)) else (some false))))))))
set_option maxHeartbeats 8000000 in
set_option maxRecDepth 100000 in
theorem agoniclaw05_CardCourses.calls (k : Nat) (A0 : Option Addr) (c0 : Nat) (l0 : List (S55)) (a1 : Int) (r_ : Bool) (w : World) (hr0 : Kd.C k55 w A0 l0.length l0) (hc0 : l0.length ≤ c0) (h : agoniclaw05_CardCourses.f k l0 a1 = some true) :
    Calls Try.prog 4 #[.slice A0 l0.length c0, .int .i64 a1] w fun e w' => e = .returned (.bool true) ∧ Below w.heap.size w w' := by
  have hu29 := Try.underlying29
  have HR0 := Aside0.mk hr0
  have HC0 := Aside0.mk hc0
  clear hr0 hc0
  have HB := Aside0.mk (Below.refl w.heap.size w)
  have H : (if (l0.length : Int) > 60 then ((agoniclaw05_works.f).bind fun t554 => (some t554)) else ((agoniclaw05_given.f k l0).bind fun t555 => ((card_Courses.f k l0 a1).bind fun bt558 => ((agonicref05_Courses.f k t555 a1).bind fun bt562 => ((card_Allowance.f k l0 a1).bind fun bt566 => ((agonicref05_Allowance.f k t555 a1).bind fun bt570 => ((agoniclaw05_ratios.f k bt558.1 bt562.1).bind fun t574 => (if t574 = true then (if bt558.2 = bt562.2 then (if (bt566.1 == bt570.1 && (bt566.2.1 == bt570.2.1)) = true then (if bt566.2.2 = bt570.2.2 then ((agoniclaw05_works.f).bind fun t575 => (some t575)) else (some false)) else (some false)) else (some false)) else (some false))))))))) = some true := h
  clear h
  by_cases c3 : (l0.length : Int) > 60
  · rw [if_pos c3] at H
    have c3b0 : decide (60 < (l0.length : Int)) = true := decide_eq_true c3
    have c3b1 : decide (60 < l0.length) = true := decide_eq_true (by omega)
    clear c3
    replace H := zi H
    obtain ⟨t554, A40, H⟩ := H
    try dsimp only at H
    have A4 := Aside0.mk A40
    clear A40
    obtain rfl := Option.some.inj H
    go_enter Try.func4, Try.ntmps4
    go_wp2_with (first | ((with_reducible refine gate_callee (f := 14) rfl ?_); refine goesL_ (some 17) rfl rfl Try.func14 (by kernel_rfl) rfl #[] rfl zs ?_; (with_reducible refine (agoniclaw05_works.calls  true _ A4.out).mono ?_); rintro e w5 ⟨rfl, hb⟩; refine ⟨_, rfl, ?_⟩; replace HB := zd hb; (try clear hb)))
    go_ret
    exact ⟨ze, zh⟩
  · rw [if_neg c3] at H
    have c3b0 : decide (60 < (l0.length : Int)) = false := decide_eq_false c3
    have c3b1 : decide (60 < l0.length) = false := decide_eq_false (by omega)
    clear c3
    replace H := zi H
    obtain ⟨t555, A60, H⟩ := H
    try dsimp only at H
    have A6 := Aside0.mk A60
    clear A60
    replace H := zi H
    obtain ⟨⟨t558, t559⟩, A70, H⟩ := H
    try dsimp only at H
    have A7 := Aside0.mk A70
    clear A70
    replace H := zi H
    obtain ⟨⟨t562, t563⟩, A80, H⟩ := H
    try dsimp only at H
    have A8 := Aside0.mk A80
    clear A80
    replace H := zi H
    obtain ⟨⟨t566, t567, t568⟩, A90, H⟩ := H
    try dsimp only at H
    have A9 := Aside0.mk A90
    clear A90
    replace H := zi H
    obtain ⟨⟨t570, t571, t572⟩, A100, H⟩ := H
    try dsimp only at H
    have A10 := Aside0.mk A100
    clear A100
    replace H := zi H
    obtain ⟨t574, A110, H⟩ := H
    try dsimp only at H
    have A11 := Aside0.mk A110
    clear A110
    by_cases c12 : t574 = true
    · subst c12
      rw [if_pos rfl] at H
      by_cases c13 : t559 = t563
      · rw [if_pos c13] at H
        have c13b0 : (t559 == t563) = true := beq_iff_eq.mpr c13
        have c13b1 : (t559 != t563) = false := bne_eq_false_iff_eq.mpr c13
        clear c13
        by_cases c14 : (t566 == t570 && (t567 == t571)) = true
        · rw [if_pos c14] at H
          have c14b0 : (t566 == t570 && (t567 == t571)) = true := c14
          (try (have c14b1 : decide (t566 = t570 && (t567 == t571)) = true := by simpa using c14))
          (try (have c14b2 : (t566 == t570 && (t567 == t571)) = true := by simpa using c14))
          clear c14
          by_cases c15 : t568 = t572
          · rw [if_pos c15] at H
            have c15b0 : (t568 == t572) = true := beq_iff_eq.mpr c15
            have c15b1 : (t568 != t572) = false := bne_eq_false_iff_eq.mpr c15
            clear c15
            replace H := zi H
            obtain ⟨t575, A160, H⟩ := H
            try dsimp only at H
            have A16 := Aside0.mk A160
            clear A160
            obtain rfl := Option.some.inj H
            go_enter Try.func4, Try.ntmps4
            go_wp2_with (first | ((with_reducible refine gate_callee (f := 15) rfl ?_); refine goesL_ (some 19) rfl rfl Try.func15 (by kernel_rfl) rfl #[.slice A0 l0.length c0] rfl zs ?_; (with_reducible refine (agoniclaw05_given.calls k _ _ l0 t555 _ ?side1 ?side2 A6.out).mono ?_); (case side1 => exact zc HR0.out); (case side2 => exact HC0.out); rintro e w17 ⟨v556, rfl, ho0, hb⟩; refine ⟨_, rfl, ?_⟩; have HO557 := Aside0.mk (Kd.R_lower ho0 (below_size zh)); replace HB := zd hb; (try clear hb); (try clear ho0)) | ((with_reducible refine gate_callee (f := 23) rfl ?_); refine goesL_ (some 23) rfl rfl Try.func23 (by kernel_rfl) rfl #[.slice A0 l0.length c0, .int .i64 a1] rfl zs ?_; (with_reducible refine (card_Courses.calls k _ _ l0 a1 t558 t559 _ ?side1 ?side2 A7.out).mono ?_); (case side1 => exact zc (Kd.C_below HR0.out HB.out)); (case side2 => exact HC0.out); rintro e w18 ⟨v560, rfl, ho0, hb⟩; refine ⟨_, rfl, ?_⟩; replace HO557 := zr HO557 hb; have HO561 := Aside0.mk (Kd.R_lower ho0 (below_size zh)); replace HB := zd hb; (try clear hb); (try clear ho0); obtain ⟨Ao19, co19, eo19⟩ := Kd.R_slice HO557.out; subst eo19) | ((with_reducible refine gate_callee (f := 24) rfl ?_); refine goesL_ (some 29) rfl rfl Try.func24 (by kernel_rfl) rfl #[.slice Ao19 t555.length co19, .int .i64 a1] rfl zs ?_; (with_reducible refine (agonicref05_Courses.calls k _ _ t555 a1 t562 t563 _ ?side1 ?side2 A8.out).mono ?_); (case side1 => exact zc (Kd.R_reads' HO557.out).2.2); (case side2 => exact (Kd.R_reads' HO557.out).2.1); rintro e w20 ⟨v564, rfl, ho0, hb⟩; refine ⟨_, rfl, ?_⟩; replace HO557 := zr HO557 hb; have HO565 := Aside0.mk (Kd.R_lower (Kd.R_new' ho0 (Kd.R_lt (zo HO561.out))) (below_size zh)); replace HO561 := Aside0.mk (Kd.R_elder' (zo HO561.out) (Kd.R_base ho0) hb); replace HB := zd hb; (try clear hb); (try clear ho0)) | ((with_reducible refine gate_callee (f := 25) rfl ?_); refine goesL_ (some 35) rfl rfl Try.func25 (by kernel_rfl) rfl #[.slice A0 l0.length c0, .int .i64 a1] rfl zs ?_; (with_reducible refine (card_Allowance.calls k _ _ l0 a1 t566 t567 t568 _ ?side1 ?side2 A9.out).mono ?_); (case side1 => exact zc (Kd.C_below HR0.out HB.out)); (case side2 => exact HC0.out); rintro e w21 ⟨rfl, hb⟩; refine ⟨_, rfl, ?_⟩; replace HO557 := zr HO557 hb; replace HO561 := zr HO561 hb; replace HO565 := zr HO565 hb; replace HB := zd hb; (try clear hb)) | ((with_reducible refine gate_dst (N := 10) rfl ?_); refine zx 10 #[.int .i64 0, .int .i64 0] 29 ?_; intro gb569 hg w22 hbox hb; replace HO557 := zr HO557 hb; replace HO561 := Aside0.mk (Kd.R_below (Kd.R_elderB (zo HO561.out) gb569 (Nat.le_of_eq hg.symm)) hb); replace HO565 := Aside0.mk (Kd.R_below (Kd.R_elderB (zo HO565.out) gb569 (Nat.le_of_eq hg.symm)) hb); have BK569 := Aside0.mk (hbox); have GE569 := zG w hg; replace HB := zd hb; clear hb hbox hg; have hcz23_0 : w22.cell? ⟨gb569, 0, none⟩ = some (.int .i64 0) := zy BK569 0; have hcz23_1 : w22.cell? ⟨gb569, 1, none⟩ = some (.int .i64 0) := zy BK569 1; have hfz23_0 := blk_frozen BK569.out 0; have hfz23_1 := blk_frozen BK569.out 1) | ((with_reducible refine gate_callee (f := 26) rfl ?_); refine goesL_ (some 41) rfl rfl Try.func26 (by kernel_rfl) rfl #[.slice Ao19 t555.length co19, .int .i64 a1] rfl zs ?_; (with_reducible refine (agonicref05_Allowance.calls k _ _ t555 a1 t570 t571 t572 _ ?side1 ?side2 A10.out).mono ?_); (case side1 => refine (Kd.R_reads' (e := 54) (base := w.heap.size) (ok := fun k_ => True) (n := t555.length) (c := co19) ?_).2.2; exact (by refine zl ?_; exact (Kd.R_mono (Kd.R_far (p := ⟨gb569, 1, none⟩) (Kd.R_far (p := ⟨gb569, 0, none⟩) (Kd.R_types HO557.out BK569.out (by decide)) (fun _ hk => hk.2) (.int .i64 t566)) (fun _ hk => hk.2) (.int .i64 t567)) (fun _ h_ => h_.1)))); (case side2 => exact (Kd.R_reads' HO557.out).2.1); rintro e w24 ⟨rfl, hb⟩; refine ⟨_, rfl, ?_⟩; replace HO561 := Aside0.mk (Kd.R_below (by refine zl ?_; exact (Kd.R_mono (Kd.R_far (p := ⟨gb569, 1, none⟩) (Kd.R_far (p := ⟨gb569, 0, none⟩) (Kd.R_mono HO561.out (fun k_ hk => (⟨hk, hk.2⟩ : _ ∧ k_ ≠ gb569))) (fun _ hk => hk.2) (.int .i64 t566)) (fun _ hk => hk.2) (.int .i64 t567)) (fun _ h_ => h_.1))) hb); replace HO565 := Aside0.mk (Kd.R_below (by refine zl ?_; exact (Kd.R_mono (Kd.R_far (p := ⟨gb569, 1, none⟩) (Kd.R_far (p := ⟨gb569, 0, none⟩) (Kd.R_mono HO565.out (fun k_ hk => (⟨hk, hk.2⟩ : _ ∧ k_ ≠ gb569))) (fun _ hk => hk.2) (.int .i64 t566)) (fun _ hk => hk.2) (.int .i64 t567)) (fun _ h_ => h_.1))) hb); replace BK569 := Aside0.mk (blk_below (g := gb569) (o := .cells #[.int .i64 t566, .int .i64 t567] 29 (0, 0)) (by refine zm ?_; refine blk_put (cs := #[.int .i64 t566, .int .i64 0]) ?_ 1 _ rfl; refine zm ?_; refine blk_put (cs := #[.int .i64 0, .int .i64 0]) ?_ 0 _ rfl; refine zm ?_; exact BK569.out) hb); replace HB := zd hb; (try clear hb); (try clear hk)) | ((with_reducible refine gate_dst (N := 12) rfl ?_); refine zx 12 #[.int .i64 0, .int .i64 0] 29 ?_; intro gb573 hg w25 hbox hb; replace HO561 := Aside0.mk (Kd.R_below (Kd.R_elderB (zo HO561.out) gb573 (Nat.le_of_eq hg.symm)) hb); replace HO565 := Aside0.mk (Kd.R_below (Kd.R_elderB (zo HO565.out) gb573 (Nat.le_of_eq hg.symm)) hb); have BK573 := Aside0.mk (hbox); have GE573 := zG w hg; replace HB := zd hb; have NB569_573 := zN BK569 hg; have NB573_569 := zM BK569 hg; replace BK569 := zk BK569 hb; clear hb hbox hg; have hnb26 := NB573_569.out; have hnc26 := NB569_573.out; have hcz27_0 : w25.cell? ⟨gb573, 0, none⟩ = some (.int .i64 0) := zy BK573 0; have hcz27_1 : w25.cell? ⟨gb573, 1, none⟩ = some (.int .i64 0) := zy BK573 1; have hfz27_0 := blk_frozen BK573.out 0; have hfz27_1 := blk_frozen BK573.out 1; obtain ⟨Ao28, co28, eo28⟩ := Kd.R_slice HO561.out; subst eo28; obtain ⟨Ao29, co29, eo29⟩ := Kd.R_slice HO565.out; subst eo29) | ((with_reducible refine gate_callee (f := 27) rfl ?_); refine goesL_ (some 46) rfl rfl Try.func27 (by kernel_rfl) rfl #[.slice Ao28 t558.length co28, .slice Ao29 t562.length co29] rfl zs ?_; (with_reducible refine (agoniclaw05_ratios.calls k _ _ t558 _ _ t562 true _ ?side1 ?side2 ?side3 ?side4 A11.out).mono ?_); (case side1 => refine (Kd.R_reads' (e := 29) (base := w.heap.size) (ok := fun k_ => (((True ∧ some k_ ≠ (.slice Ao29 t562.length co29 : Value).ownBlock) ∧ k_ ≠ gb569) ∧ k_ ≠ gb573)) (n := t558.length) (c := co28) ?_).2.2; exact (by refine zl ?_; exact (Kd.R_mono (Kd.R_far (p := ⟨gb573, 1, none⟩) (Kd.R_far (p := ⟨gb573, 0, none⟩) (Kd.R_mono HO561.out (fun k_ hk => (⟨hk, hk.2⟩ : _ ∧ k_ ≠ gb573))) (fun _ hk => hk.2) (.int .i64 t570)) (fun _ hk => hk.2) (.int .i64 t571)) (fun _ h_ => h_.1)))); (case side2 => exact (Kd.R_reads' HO561.out).2.1); (case side3 => refine (Kd.R_reads' (e := 29) (base := w.heap.size) (ok := fun k_ => (((True ∧ some k_ ≠ (.slice Ao28 t558.length co28 : Value).ownBlock) ∧ k_ ≠ gb569) ∧ k_ ≠ gb573)) (n := t562.length) (c := co29) ?_).2.2; exact (by refine zl ?_; exact (Kd.R_mono (Kd.R_far (p := ⟨gb573, 1, none⟩) (Kd.R_far (p := ⟨gb573, 0, none⟩) (Kd.R_mono HO565.out (fun k_ hk => (⟨hk, hk.2⟩ : _ ∧ k_ ≠ gb573))) (fun _ hk => hk.2) (.int .i64 t570)) (fun _ hk => hk.2) (.int .i64 t571)) (fun _ h_ => h_.1)))); (case side4 => exact (Kd.R_reads' HO565.out).2.1); rintro e w' ⟨rfl, ⟨nd, rfl⟩⟩; refine ⟨_, rfl, ?_⟩; have hcz30_0 : w25.cell? ⟨gb569, 0, none⟩ = some (.int .i64 t566) := zy BK569 0; have hcz30_1 : w25.cell? ⟨gb569, 1, none⟩ = some (.int .i64 t567) := zy BK569 1; have hfz30_0 := blk_frozen BK569.out 0; have hfz30_1 := blk_frozen BK569.out 1) | (go_at_call 14; (with_reducible refine (agoniclaw05_works.calls  true _ A16.out).mono ?_); rintro e w31 ⟨rfl, hb⟩; replace HB := zd hb; (try clear hb); (try clear hk)))
            go_ret
            exact ⟨ze, zh⟩
          · rw [if_neg c15] at H
            have c15b0 : (t568 == t572) = false := beq_eq_false_iff_ne.mpr c15
            have c15b1 : (t568 != t572) = true := bne_iff_ne.mpr c15
            exact absurd (Option.some.inj H) (by decide)
        · rw [if_neg c14] at H
          have c14b0 : (t566 == t570 && (t567 == t571)) = false := by simpa using c14
          (try (have c14b1 : decide (t566 = t570 && (t567 == t571)) = false := by simpa using c14))
          (try (have c14b2 : (t566 == t570 && (t567 == t571)) = false := by simpa using c14))
          (try (have c14b3 : ¬ (t566 = t570 && (t567 == t571)) := by simpa using c14))
          clear c14
          exact absurd (Option.some.inj H) (by decide)
      · rw [if_neg c13] at H
        have c13b0 : (t559 == t563) = false := beq_eq_false_iff_ne.mpr c13
        have c13b1 : (t559 != t563) = true := bne_iff_ne.mpr c13
        exact absurd (Option.some.inj H) (by decide)
    · replace c12 := Bool.eq_false_iff.mpr c12
      subst c12
      rw [if_neg (show ¬ (false = true) by decide)] at H
      exact absurd (Option.some.inj H) (by decide)
end Go.Proofs.Ytccjefoejjnccaa.C
