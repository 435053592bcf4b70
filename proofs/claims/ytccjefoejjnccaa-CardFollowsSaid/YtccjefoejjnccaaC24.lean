-- Written by a program of this session (wip/tools/myprint.py, over the kit's print).
import Derived.Test.YtccjefoejjnccaaC0
import Derived.Test.YtccjefoejjnccaaC1
import Derived.Test.YtccjefoejjnccaaC2
import Derived.Test.YtccjefoejjnccaaC6
import Derived.Test.YtccjefoejjnccaaC14
import Derived.Test.YtccjefoejjnccaaC15
import Derived.Test.YtccjefoejjnccaaC10
import Derived.Test.YtccjefoejjnccaaC11
import Derived.Test.YtccjefoejjnccaaC7
import Derived.Test.YtccjefoejjnccaaC8
import Derived.Test.YtccjefoejjnccaaC9
import Derived.Test.YtccjefoejjnccaaC21
import Derived.Test.YtccjefoejjnccaaH11
import Derived.Test.YtccjefoejjnccaaH13
import Derived.Test.YtccjefoejjnccaaH14
import Derived.Test.YtccjefoejjnccaaH6
import Derived.Test.YtccjefoejjnccaaH7
import Derived.Test.YtccjefoejjnccaaZ
namespace Go.Proofs.Ytccjefoejjnccaa.C
open Go.Proofs.Ytccjefoejjnccaa.H
open Go.RowKit Go.Proofs.YtccjefoejjnccaaW.PrintWords Go.Proofs.YtccjefoejjnccaaW.PrintLast Go.Proofs.YtccjefoejjnccaaW.PrintMore
attribute [local go_sem] max2_int min2_int max_two min_two max_three min_three max_four min_four   -- for this text's walks alone
set_option linter.unusedVariables false
set_option linter.unusedSimpArgs false
attribute [local go_sem high] eqA29 eqA55 eqA54
mutual
def agoniclaw05_CardFollows.l0 : Nat → List (List (S55)) → Int → List (List (S54)) → Int → Option (Bool)
 | 0, _, _, _, _ => none
 | k + 1, x0, x1, x5, x6 => if x6 < (x0.length : Int) then (if 0 ≤ x6 then (if ((rd_L11 x0 x6).length : Int) > 60 then ((agoniclaw05_works.f).bind fun t587 => (some t587)) else ((agoniclaw05_given.f k (rd_L11 x0 x6)).bind fun t589 => (if x5.length < 5864062014805 then ((some (x5 ++ [t589] : List (List (S54)))).bind fun y592 => ((card_Inverse.f k (rd_L11 x0 x6)).bind fun bt596 => (if x6 < (y592.length : Int) then ((agonicref05_Inverse.f k (rd_L7 y592 x6)).bind fun bt601 => (if bt596.2 = bt601.2 then (agoniclaw05_CardFollows.j1 k x0 x1 y592 x6 bt596.1 bt601.1 ((bt596.1.length : Int) != (bt601.1.length : Int))) else (agoniclaw05_CardFollows.j1 k x0 x1 y592 x6 bt596.1 bt601.1 true))) else (none)))) else (none)))) else (none)) else ((card_Follow.f k x0 x1).bind fun bt577 => ((agonicref05_Follow.f k x5 x1).bind fun bt581 => (if (bt577.1 == bt581.1 && (bt577.2.1 == bt581.2.1)) = true then (if bt577.2.2 = bt581.2.2 then ((agoniclaw05_works.f).bind fun t585 => (some t585)) else (some false)) else (some false))))
def agoniclaw05_CardFollows.j1 : Nat → List (List (S55)) → Int → List (List (S54)) → Int → List (S55) → List (S54) → Bool → Option (Bool)
 | 0, _, _, _, _, _, _, _ => none
 | k + 1, x0, x1, x5, x6, x7, x9, x66 => if x66 = true then (some false) else (agoniclaw05_CardFollows.l1 k x0 x1 x5 x6 x7 x9 0)
def agoniclaw05_CardFollows.l1 : Nat → List (List (S55)) → Int → List (List (S54)) → Int → List (S55) → List (S54) → Int → Option (Bool)
 | 0, _, _, _, _, _, _, _ => none
 | k + 1, x0, x1, x5, x6, x7, x9, x11 => if x11 < (x7.length : Int) then (if 0 ≤ x11 then (if x11 < (x9.length : Int) then (if (!(((rd_T55 x7 x11).f0) == ((rd_T54 x9 x11).f0)) || (!(((rd_T55 x7 x11).f1) == ((rd_T54 x9 x11).f1)))) = true then (some false) else (agoniclaw05_CardFollows.l1 k x0 x1 x5 x6 x7 x9 (wrap64 (x11 + 1)))) else (none)) else (none)) else (agoniclaw05_CardFollows.l0 k x0 x1 x5 (wrap64 (x6 + 1)))
end
def agoniclaw05_CardFollows.f (k : Nat) (l0 : List (List (S55))) (a1 : Int) : Option (Bool) := if (l0.length : Int) > 10 then ((agoniclaw05_works.f).bind fun t576 => (some t576)) else (agoniclaw05_CardFollows.l0 k l0 a1 ([] : List (List (S54))) 0)
set_option maxHeartbeats 8000000 in
set_option maxRecDepth 100000 in
theorem agoniclaw05_CardFollows.calls (k : Nat) (A0 : Option Addr) (c0 : Nat) (l0 : List (List (S55))) (a1 : Int) (r_ : Bool) (w : World) (hr0 : Kd.C (Kd.slice 55 k55) w A0 l0.length l0) (hc0 : l0.length ≤ c0) (h : agoniclaw05_CardFollows.f k l0 a1 = some true) :
  Calls Try.prog 5 #[.slice A0 l0.length c0, .int .i64 a1] w fun e w' => e = .returned (.bool true) ∧ Below w.heap.size w w' := by
 have hu55 := Try.underlying55
 have hu54 := Try.underlying54
 have hu29 := Try.underlying29
 have HR0 := Aside0.mk hr0
 have HC0 := Aside0.mk hc0
 clear hr0 hc0
 have HB := Aside0.mk (Below.refl w.heap.size w)
 have H : (if (l0.length : Int) > 10 then ((agoniclaw05_works.f).bind fun t576 => (some t576)) else (agoniclaw05_CardFollows.l0 k l0 a1 ([] : List (List (S54))) 0)) = some true := h
 clear h
 by_cases c3 : (l0.length : Int) > 10
 ·rw [if_pos c3] at H
  have c3b0 : decide (10 < (l0.length : Int)) = true := decide_eq_true c3
  have c3b1 : decide (10 < l0.length) = true := decide_eq_true (by omega)
  clear c3
  replace H := zi H
  obtain ⟨t576, A40, H⟩ := H
  try dsimp only at H
  have A4 := Aside0.mk A40
  clear A40
  obtain rfl := Option.some.inj H
  go_enter Try.func5, Try.ntmps5
  go_wp2_with (first | (go_at_call 14; (with_reducible refine (agoniclaw05_works.calls  true _ A4.out).mono ?_); rintro e w5 ⟨rfl, hb⟩; replace HB := zd hb; (try clear hb)))
  repeat (go_quiet (first | (go_at_call 14; (with_reducible refine (agoniclaw05_works.calls  true _ A4.out).mono ?_); rintro e w5 ⟨rfl, hb⟩; replace HB := zd hb; (try clear hb))); try go_wp2_with (first | (go_at_call 14; (with_reducible refine (agoniclaw05_works.calls  true _ A4.out).mono ?_); rintro e w5 ⟨rfl, hb⟩; replace HB := zd hb; (try clear hb))))
  go_ret
  exact ⟨ze, zh⟩
 ·rw [if_neg c3] at H
  have c3b0 : decide (10 < (l0.length : Int)) = false := decide_eq_false c3
  have c3b1 : decide (10 < l0.length) = false := decide_eq_false (by omega)
  clear c3
  have H' := Aside0.mk H
  clear H
  go_enter Try.func5, Try.ntmps5
  go_wp2
  repeat (go_quiet (fail); try go_wp2)
  go_loopg [5, 6] k (fun kq v5 v6 w' => ∃ (x5_1 : List (List (S54))) (x6_1 : Int), v6 = .int .i64 x6_1 ∧ Aside0 (agoniclaw05_CardFollows.l0 kq l0 a1 x5_1 x6_1 = some true) ∧ Aside0 (kq ≤ k) ∧ Aside0 (Kd.S (Kd.slice 54 k54) 26 w' w.heap.size (fun _ => True) v5 x5_1) ∧ Aside0 (Below w.heap.size w w'))
  case atStart => exact ⟨(([] : List (List (S54)))), (0), (by first | rfl | (simp; done) | (simp [*]; done)), H', ⟨Nat.le_refl _⟩, ⟨by first | exact Kd.S_nil _ _ _ _ _ | exact Kd.N_nil _ _ _ _ _ | exact Kd.V_nil _ _ _ _ _ | exact Kd.Q_nil _ _ _ _ _ | exact Kd.R_nil _ _ _ _ _⟩, ⟨zh⟩⟩
  case round =>
   clear H'
   try clear p2
   try clear c3
   try clear c3b0
   try clear c3b1
   try clear c5
   obtain ⟨x5_1, x6_1, rfl, HA, HK1, HO_5, HB⟩ := hrel
   cases gk with
   | zero => exact absurd HA.out (by simp [agoniclaw05_CardFollows.l0])
   | succ k1 =>
    have H := HA.out
    clear HA
    simp only [agoniclaw05_CardFollows.l0] at H
    by_cases c6 : x6_1 < (l0.length : Int)
    ·rw [if_pos c6] at H
     have c6b0 : decide (x6_1 < (l0.length : Int)) = true := decide_eq_true c6
     clear c6
     by_cases c7 : 0 ≤ x6_1
     ·rw [if_pos c7] at H
      have c7b0 : decide (0 ≤ x6_1) = true := decide_eq_true c7
      clear c7
      by_cases c8 : ((rd_L11 l0 x6_1).length : Int) > 60
      ·rw [if_pos c8] at H
       have c8b0 : decide (60 < ((rd_L11 l0 x6_1).length : Int)) = true := decide_eq_true c8
       have c8b1 : decide (60 < (rd_L11 l0 x6_1).length) = true := decide_eq_true (by omega)
       clear c8
       replace H := zi H
       obtain ⟨t587, A90, H⟩ := H
       try dsimp only at H
       have A9 := Aside0.mk A90
       clear A90
       obtain rfl := Option.some.inj H
       have p586 : 0 ≤ (x6_1 : Int) := zp
       have q586 : x6_1 < (l0.length : Int) := zp
       obtain ⟨ad586, A586_0, c586_0, e586, hx586_0, hl586_0, hi586_0⟩ := at_L11 HR0.out x6_1 p586 q586
       cases e586
       replace hx586_0 := (HB.out.cell (World.block_lt_of_cell? w _ hx586_0)).trans hx586_0
       have HR586_0 := Aside0.mk hi586_0
       have HC586_0 := Aside0.mk hl586_0
       clear hi586_0 hl586_0
       replace p586 := eq_true p586
       replace q586 := eq_true q586
       go_wp2_with (first | (go_at_call 14; (with_reducible refine (agoniclaw05_works.calls  true _ A9.out).mono ?_); rintro e w10 ⟨rfl, hb⟩; replace HB := zd hb; (try clear hb)))
       repeat (go_quiet (first | (go_at_call 14; (with_reducible refine (agoniclaw05_works.calls  true _ A9.out).mono ?_); rintro e w10 ⟨rfl, hb⟩; replace HB := zd hb; (try clear hb))); try go_wp2_with (first | (go_at_call 14; (with_reducible refine (agoniclaw05_works.calls  true _ A9.out).mono ?_); rintro e w10 ⟨rfl, hb⟩; replace HB := zd hb; (try clear hb))))
       go_ret
       exact ⟨ze, zh⟩
      ·rw [if_neg c8] at H
       have c8b0 : decide (60 < ((rd_L11 l0 x6_1).length : Int)) = false := decide_eq_false c8
       have c8b1 : decide (60 < (rd_L11 l0 x6_1).length) = false := decide_eq_false (by omega)
       clear c8
       replace H := zi H
       obtain ⟨t589, A110, H⟩ := H
       try dsimp only at H
       have A11 := Aside0.mk A110
       clear A110
       by_cases c12 : x5_1.length < 5864062014805
       ·rw [if_pos c12] at H
        have LMc12 := Aside0.mk c12
        clear c12
        obtain ⟨y592, hy592⟩ : ∃ y_ : List (List (S54)), y_ = (x5_1 ++ [t589]) := ⟨_, rfl⟩
        replace H : ((card_Inverse.f k1 (rd_L11 l0 x6_1)).bind fun bt596 => (if x6_1 < (y592.length : Int) then ((agonicref05_Inverse.f k1 (rd_L7 y592 x6_1)).bind fun bt601 => (if bt596.2 = bt601.2 then (agoniclaw05_CardFollows.j1 k1 l0 a1 y592 x6_1 bt596.1 bt601.1 ((bt596.1.length : Int) != (bt601.1.length : Int))) else (agoniclaw05_CardFollows.j1 k1 l0 a1 y592 x6_1 bt596.1 bt601.1 true))) else (none))) = some true := by first | (rw [hy592]; with_reducible exact H) | (have H2_ := (Option.bind_some _ _).symm.trans H; rw [hy592]; with_reducible exact H2_) | (have H2_ := (Option.bind_some _ _).symm.trans H; with_reducible exact H2_) | with_reducible exact H | (rw [hy592]; exact H) | exact H
        have Ny592 := Aside0.mk hy592
        clear hy592
        replace H := zi H
        obtain ⟨⟨t596, t597⟩, A130, H⟩ := H
        try dsimp only at H
        have A13 := Aside0.mk A130
        clear A130
        by_cases c14 : x6_1 < (y592.length : Int)
        ·rw [if_pos c14] at H
         have c14b0 : decide (x6_1 < (y592.length : Int)) = true := decide_eq_true c14
         clear c14
         replace H := zi H
         obtain ⟨⟨t601, t602⟩, A150, H⟩ := H
         try dsimp only at H
         have A15 := Aside0.mk A150
         clear A150
         have HC16 := Aside0.mk H
         clear H
         have p586 : 0 ≤ (x6_1 : Int) := zp
         have q586 : x6_1 < (l0.length : Int) := zp
         obtain ⟨ad586, A586_0, c586_0, e586, hx586_0, hl586_0, hi586_0⟩ := at_L11 HR0.out x6_1 p586 q586
         cases e586
         replace hx586_0 := (HB.out.cell (World.block_lt_of_cell? w _ hx586_0)).trans hx586_0
         have HR586_0 := Aside0.mk hi586_0
         have HC586_0 := Aside0.mk hl586_0
         clear hi586_0 hl586_0
         replace p586 := eq_true p586
         replace q586 := eq_true q586
         have p588 : 0 ≤ (x6_1 : Int) := zp
         have q588 : x6_1 < (l0.length : Int) := zp
         obtain ⟨ad588, A588_0, c588_0, e588, hx588_0, hl588_0, hi588_0⟩ := at_L11 HR0.out x6_1 p588 q588
         obtain rfl : ad586 = ad588 := (by injection e588)
         replace hx588_0 := (HB.out.cell (World.block_lt_of_cell? w _ hx588_0)).trans hx588_0
         have HR588_0 := Aside0.mk hi588_0
         have HC588_0 := Aside0.mk hl588_0
         clear hi588_0 hl588_0
         replace p588 := eq_true p588
         replace q588 := eq_true q588
         have ea_ := Option.some.inj (hx586_0.symm.trans hx588_0)
         injection ea_ with ea_ en_ ec_
         subst ea_
         subst ec_
         clear en_
         go_upto_region 12 with (first | (go_at_call 15; (with_reducible refine (agoniclaw05_given.calls k1 _ _ (rd_L11 l0 x6_1) t589 _ ?side1 ?side2 A11.out).mono ?_); (case side1 => exact zc (Kd.C_below HR588_0.out HB.out)); (case side2 => exact HC588_0.out); rintro e w17 ⟨v590, rfl, ho0, hb⟩; replace HO_5 := Aside0.mk (Kd.S_elder' (by (with_reducible repeat (first | apply Kd.S_alloc | apply Kd.S_drewN | apply Kd.S_drew)); exact HO_5.out) (Kd.R_base ho0) hb); have HO591 := Aside0.mk (Kd.R_lower ho0 (below_size zh)); replace HB := zd hb; (try clear hb); (try clear ho0); obtain ⟨Ao19, co19, eo19⟩ := Kd.R_slice HO591.out; subst eo19) | ((with_reducible refine gate_builtin (b := .append) (xs := #[.tmp 33, .tmp 39]) rfl ?_); (try (refine gate_guard (by rfl) ?_; dsimp only)); at_builtin; refine Kd.S_append (Kd.slice 54 k54) (w0 := w) w.heap.size rfl (.tmp 33) (.tmp 39) 48 26 (.slice none 0 0) 24 rfl Try.underlying48 info26 rfl (by decide) (by omega) u5 x5_1 t589 [.slice Ao19 t589.length co19] (fun _ => True) (fun k_ => some k_ = (.slice Ao19 t589.length co19 : Value).ownBlock) rfl rfl ?aP (fun k_ hk_ => ((Kd.R_mono (ok' := fun k_ => ((fun _ => True)) k_ ∧ some k_ ≠ (u5 : Value).ownBlock) (Kd.R_apart' (HO591.out) (Kd.S_typed HO_5.out) (by decide)) (fun k_ hk => ⟨trivial, hk.2⟩))).1 k_ hk_.symm) ?aF ?aO ?aB ?aS ?aL ?_; (case aP => exact Kd.M_row (Kd.R_mono (Kd.R_tight rfl (Kd.R_mono (ok' := fun k_ => ((fun _ => True)) k_ ∧ some k_ ≠ (u5 : Value).ownBlock) (Kd.R_apart' (HO591.out) (Kd.S_typed HO_5.out) (by decide)) (fun k_ hk => ⟨trivial, hk.2⟩))) (fun _ h_ => h_))); (case aB => exact zh); (case aF => exact (fun _ _ => trivial)); (case aO => exact (by (with_reducible repeat (first | apply Kd.S_alloc | apply Kd.S_drewN | apply Kd.S_drew)); exact Kd.S_mono HO_5.out (fun k_ hk => ⟨trivial, fun e_ => hk.2 e_⟩))); (case aS => exact (below_size zh)); (case aL => have := LMc12.out; omega); intro v593 w18 ho hb hg hat; rw [← Ny592.out] at ho; replace HB := Aside0.mk (hb); have HO594 := Aside0.mk (ho); clear HO_5 HO591; clear ho hb hg hat; have p595 : 0 ≤ (x6_1 : Int) := zp; have q595 : x6_1 < (l0.length : Int) := zp; obtain ⟨ad595, A595_0, c595_0, e595, hx595_0, hl595_0, hi595_0⟩ := at_L11 HR0.out x6_1 p595 q595; obtain rfl : ad586 = ad595 := (by injection e595); replace hx595_0 := (HB.out.cell (World.block_lt_of_cell? w _ hx595_0)).trans hx595_0; have HR595_0 := Aside0.mk hi595_0; have HC595_0 := Aside0.mk hl595_0; clear hi595_0 hl595_0; replace p595 := eq_true p595; replace q595 := eq_true q595) | (go_at_call 28; (with_reducible refine (card_Inverse.calls k1 _ _ (rd_L11 l0 x6_1) t596 t597 _ ?side1 ?side2 A13.out).mono ?_); (case side1 => exact zc (Kd.C_below HR595_0.out HB.out)); (case side2 => exact HC595_0.out); rintro e w20 ⟨v598, rfl, ho0, hb⟩; replace HO594 := Aside0.mk (Kd.S_below (by (with_reducible repeat (first | apply Kd.S_alloc | apply Kd.S_drewN | apply Kd.S_drew)); exact HO594.out) hb); have HO599 := Aside0.mk (Kd.R_lower ho0 (below_size zh)); replace HB := zd hb; (try clear hb); (try clear ho0); obtain ⟨Ao21, co21, eo21⟩ := Kd.S_slice HO594.out; subst eo21; have p600 : 0 ≤ (x6_1 : Int) := zp; have q600 : x6_1 < (y592.length : Int) := zp; obtain ⟨ad600, A600_0, c600_0, e600, hx600_0, hl600_0, hi600_0⟩ := at_L7 (Kd.S_reads' HO594.out).2.2 x6_1 p600 q600; cases e600; obtain ⟨ce600, hce600, hMe600, hcc600⟩ := Kd.S_get HO594.out [] x6_1 p600 (by first | exact q600 | exact zp | (have e_ := (Kd.S_reads' HO594.out).1; omega)); obtain ⟨ve600_0, rfl, ge600_0⟩ := hMe600; have hv600_0 := hcc600 0 _ rfl; rw [Nat.add_zero, show ((Kd.slice 54 k54)).sz = 1 from rfl, Nat.mul_one] at hv600_0; replace hv600_0 := Option.some.inj (hv600_0.symm.trans hx600_0); rw [hv600_0] at ge600_0; have HL600_0 := Aside0.mk (show Kd.R k54 54 _ _ _ _ (rd_L7 y592 x6_1) from ge600_0); clear hv600_0 ge600_0; clear hcc600 hce600; have HR600_0 := Aside0.mk hi600_0; have HC600_0 := Aside0.mk hl600_0; clear hi600_0 hl600_0; replace p600 := eq_true p600; replace q600 := eq_true q600) | (go_at_call 29; (with_reducible refine (agonicref05_Inverse.calls k1 _ _ (rd_L7 y592 x6_1) t601 t602 _ ?side1 ?side2 A15.out).mono ?_); (case side1 => repeat (first | exact (by repeat (first | (with_reducible exact HR600_0.out) | (with_reducible refine Kd.C_alloc ?_ _) | (with_reducible refine Kd.C_drewN ?_ _) | (with_reducible refine Kd.C_drew ?_) | exact HR600_0.out)) | (with_reducible refine Kd.C_alloc ?_ _) | (with_reducible refine Kd.C_drewN ?_ _) | (with_reducible refine Kd.C_drew ?_))); (case side2 => exact HC600_0.out); rintro e w22 ⟨v603, rfl, ho0, hb⟩; replace HO594 := Aside0.mk (Kd.S_elder' (by (with_reducible repeat (first | apply Kd.S_alloc | apply Kd.S_drewN | apply Kd.S_drew)); exact HO594.out) (Kd.R_base ho0) hb); replace HO599 := zr HO599 hb; have HO604 := Aside0.mk (Kd.R_lower (Kd.R_new' ho0 (Kd.R_lt (zo HL600_0.out))) (below_size zh)); replace HL600_0 := Aside0.mk (Kd.R_elder' (zo HL600_0.out) (Kd.R_base ho0) hb); replace HR600_0 := Aside0.mk (Kd.C_below (by repeat (first | (with_reducible exact HR600_0.out) | (with_reducible refine Kd.C_alloc ?_ _) | (with_reducible refine Kd.C_drewN ?_ _) | (with_reducible refine Kd.C_drew ?_) | exact HR600_0.out)) hb); replace HB := zd hb; (try clear hb); (try clear ho0)))
         repeat (go_quiet (first | (go_at_call 15; (with_reducible refine (agoniclaw05_given.calls k1 _ _ (rd_L11 l0 x6_1) t589 _ ?side1 ?side2 A11.out).mono ?_); (case side1 => exact zc (Kd.C_below HR588_0.out HB.out)); (case side2 => exact HC588_0.out); rintro e w17 ⟨v590, rfl, ho0, hb⟩; replace HO_5 := Aside0.mk (Kd.S_elder' (by (with_reducible repeat (first | apply Kd.S_alloc | apply Kd.S_drewN | apply Kd.S_drew)); exact HO_5.out) (Kd.R_base ho0) hb); have HO591 := Aside0.mk (Kd.R_lower ho0 (below_size zh)); replace HB := zd hb; (try clear hb); (try clear ho0); obtain ⟨Ao19, co19, eo19⟩ := Kd.R_slice HO591.out; subst eo19) | ((with_reducible refine gate_builtin (b := .append) (xs := #[.tmp 33, .tmp 39]) rfl ?_); (try (refine gate_guard (by rfl) ?_; dsimp only)); at_builtin; refine Kd.S_append (Kd.slice 54 k54) (w0 := w) w.heap.size rfl (.tmp 33) (.tmp 39) 48 26 (.slice none 0 0) 24 rfl Try.underlying48 info26 rfl (by decide) (by omega) u5 x5_1 t589 [.slice Ao19 t589.length co19] (fun _ => True) (fun k_ => some k_ = (.slice Ao19 t589.length co19 : Value).ownBlock) rfl rfl ?aP (fun k_ hk_ => ((Kd.R_mono (ok' := fun k_ => ((fun _ => True)) k_ ∧ some k_ ≠ (u5 : Value).ownBlock) (Kd.R_apart' (HO591.out) (Kd.S_typed HO_5.out) (by decide)) (fun k_ hk => ⟨trivial, hk.2⟩))).1 k_ hk_.symm) ?aF ?aO ?aB ?aS ?aL ?_; (case aP => exact Kd.M_row (Kd.R_mono (Kd.R_tight rfl (Kd.R_mono (ok' := fun k_ => ((fun _ => True)) k_ ∧ some k_ ≠ (u5 : Value).ownBlock) (Kd.R_apart' (HO591.out) (Kd.S_typed HO_5.out) (by decide)) (fun k_ hk => ⟨trivial, hk.2⟩))) (fun _ h_ => h_))); (case aB => exact zh); (case aF => exact (fun _ _ => trivial)); (case aO => exact (by (with_reducible repeat (first | apply Kd.S_alloc | apply Kd.S_drewN | apply Kd.S_drew)); exact Kd.S_mono HO_5.out (fun k_ hk => ⟨trivial, fun e_ => hk.2 e_⟩))); (case aS => exact (below_size zh)); (case aL => have := LMc12.out; omega); intro v593 w18 ho hb hg hat; rw [← Ny592.out] at ho; replace HB := Aside0.mk (hb); have HO594 := Aside0.mk (ho); clear HO_5 HO591; clear ho hb hg hat; have p595 : 0 ≤ (x6_1 : Int) := zp; have q595 : x6_1 < (l0.length : Int) := zp; obtain ⟨ad595, A595_0, c595_0, e595, hx595_0, hl595_0, hi595_0⟩ := at_L11 HR0.out x6_1 p595 q595; obtain rfl : ad586 = ad595 := (by injection e595); replace hx595_0 := (HB.out.cell (World.block_lt_of_cell? w _ hx595_0)).trans hx595_0; have HR595_0 := Aside0.mk hi595_0; have HC595_0 := Aside0.mk hl595_0; clear hi595_0 hl595_0; replace p595 := eq_true p595; replace q595 := eq_true q595) | (go_at_call 28; (with_reducible refine (card_Inverse.calls k1 _ _ (rd_L11 l0 x6_1) t596 t597 _ ?side1 ?side2 A13.out).mono ?_); (case side1 => exact zc (Kd.C_below HR595_0.out HB.out)); (case side2 => exact HC595_0.out); rintro e w20 ⟨v598, rfl, ho0, hb⟩; replace HO594 := Aside0.mk (Kd.S_below (by (with_reducible repeat (first | apply Kd.S_alloc | apply Kd.S_drewN | apply Kd.S_drew)); exact HO594.out) hb); have HO599 := Aside0.mk (Kd.R_lower ho0 (below_size zh)); replace HB := zd hb; (try clear hb); (try clear ho0); obtain ⟨Ao21, co21, eo21⟩ := Kd.S_slice HO594.out; subst eo21; have p600 : 0 ≤ (x6_1 : Int) := zp; have q600 : x6_1 < (y592.length : Int) := zp; obtain ⟨ad600, A600_0, c600_0, e600, hx600_0, hl600_0, hi600_0⟩ := at_L7 (Kd.S_reads' HO594.out).2.2 x6_1 p600 q600; cases e600; obtain ⟨ce600, hce600, hMe600, hcc600⟩ := Kd.S_get HO594.out [] x6_1 p600 (by first | exact q600 | exact zp | (have e_ := (Kd.S_reads' HO594.out).1; omega)); obtain ⟨ve600_0, rfl, ge600_0⟩ := hMe600; have hv600_0 := hcc600 0 _ rfl; rw [Nat.add_zero, show ((Kd.slice 54 k54)).sz = 1 from rfl, Nat.mul_one] at hv600_0; replace hv600_0 := Option.some.inj (hv600_0.symm.trans hx600_0); rw [hv600_0] at ge600_0; have HL600_0 := Aside0.mk (show Kd.R k54 54 _ _ _ _ (rd_L7 y592 x6_1) from ge600_0); clear hv600_0 ge600_0; clear hcc600 hce600; have HR600_0 := Aside0.mk hi600_0; have HC600_0 := Aside0.mk hl600_0; clear hi600_0 hl600_0; replace p600 := eq_true p600; replace q600 := eq_true q600) | (go_at_call 29; (with_reducible refine (agonicref05_Inverse.calls k1 _ _ (rd_L7 y592 x6_1) t601 t602 _ ?side1 ?side2 A15.out).mono ?_); (case side1 => repeat (first | exact (by repeat (first | (with_reducible exact HR600_0.out) | (with_reducible refine Kd.C_alloc ?_ _) | (with_reducible refine Kd.C_drewN ?_ _) | (with_reducible refine Kd.C_drew ?_) | exact HR600_0.out)) | (with_reducible refine Kd.C_alloc ?_ _) | (with_reducible refine Kd.C_drewN ?_ _) | (with_reducible refine Kd.C_drew ?_))); (case side2 => exact HC600_0.out); rintro e w22 ⟨v603, rfl, ho0, hb⟩; replace HO594 := Aside0.mk (Kd.S_elder' (by (with_reducible repeat (first | apply Kd.S_alloc | apply Kd.S_drewN | apply Kd.S_drew)); exact HO594.out) (Kd.R_base ho0) hb); replace HO599 := zr HO599 hb; have HO604 := Aside0.mk (Kd.R_lower (Kd.R_new' ho0 (Kd.R_lt (zo HL600_0.out))) (below_size zh)); replace HL600_0 := Aside0.mk (Kd.R_elder' (zo HL600_0.out) (Kd.R_base ho0) hb); replace HR600_0 := Aside0.mk (Kd.C_below (by repeat (first | (with_reducible exact HR600_0.out) | (with_reducible refine Kd.C_alloc ?_ _) | (with_reducible refine Kd.C_drewN ?_ _) | (with_reducible refine Kd.C_drew ?_) | exact HR600_0.out)) hb); replace HB := zd hb; (try clear hb); (try clear ho0))); go_upto_region 12 with (first | (go_at_call 15; (with_reducible refine (agoniclaw05_given.calls k1 _ _ (rd_L11 l0 x6_1) t589 _ ?side1 ?side2 A11.out).mono ?_); (case side1 => exact zc (Kd.C_below HR588_0.out HB.out)); (case side2 => exact HC588_0.out); rintro e w17 ⟨v590, rfl, ho0, hb⟩; replace HO_5 := Aside0.mk (Kd.S_elder' (by (with_reducible repeat (first | apply Kd.S_alloc | apply Kd.S_drewN | apply Kd.S_drew)); exact HO_5.out) (Kd.R_base ho0) hb); have HO591 := Aside0.mk (Kd.R_lower ho0 (below_size zh)); replace HB := zd hb; (try clear hb); (try clear ho0); obtain ⟨Ao19, co19, eo19⟩ := Kd.R_slice HO591.out; subst eo19) | ((with_reducible refine gate_builtin (b := .append) (xs := #[.tmp 33, .tmp 39]) rfl ?_); (try (refine gate_guard (by rfl) ?_; dsimp only)); at_builtin; refine Kd.S_append (Kd.slice 54 k54) (w0 := w) w.heap.size rfl (.tmp 33) (.tmp 39) 48 26 (.slice none 0 0) 24 rfl Try.underlying48 info26 rfl (by decide) (by omega) u5 x5_1 t589 [.slice Ao19 t589.length co19] (fun _ => True) (fun k_ => some k_ = (.slice Ao19 t589.length co19 : Value).ownBlock) rfl rfl ?aP (fun k_ hk_ => ((Kd.R_mono (ok' := fun k_ => ((fun _ => True)) k_ ∧ some k_ ≠ (u5 : Value).ownBlock) (Kd.R_apart' (HO591.out) (Kd.S_typed HO_5.out) (by decide)) (fun k_ hk => ⟨trivial, hk.2⟩))).1 k_ hk_.symm) ?aF ?aO ?aB ?aS ?aL ?_; (case aP => exact Kd.M_row (Kd.R_mono (Kd.R_tight rfl (Kd.R_mono (ok' := fun k_ => ((fun _ => True)) k_ ∧ some k_ ≠ (u5 : Value).ownBlock) (Kd.R_apart' (HO591.out) (Kd.S_typed HO_5.out) (by decide)) (fun k_ hk => ⟨trivial, hk.2⟩))) (fun _ h_ => h_))); (case aB => exact zh); (case aF => exact (fun _ _ => trivial)); (case aO => exact (by (with_reducible repeat (first | apply Kd.S_alloc | apply Kd.S_drewN | apply Kd.S_drew)); exact Kd.S_mono HO_5.out (fun k_ hk => ⟨trivial, fun e_ => hk.2 e_⟩))); (case aS => exact (below_size zh)); (case aL => have := LMc12.out; omega); intro v593 w18 ho hb hg hat; rw [← Ny592.out] at ho; replace HB := Aside0.mk (hb); have HO594 := Aside0.mk (ho); clear HO_5 HO591; clear ho hb hg hat; have p595 : 0 ≤ (x6_1 : Int) := zp; have q595 : x6_1 < (l0.length : Int) := zp; obtain ⟨ad595, A595_0, c595_0, e595, hx595_0, hl595_0, hi595_0⟩ := at_L11 HR0.out x6_1 p595 q595; obtain rfl : ad586 = ad595 := (by injection e595); replace hx595_0 := (HB.out.cell (World.block_lt_of_cell? w _ hx595_0)).trans hx595_0; have HR595_0 := Aside0.mk hi595_0; have HC595_0 := Aside0.mk hl595_0; clear hi595_0 hl595_0; replace p595 := eq_true p595; replace q595 := eq_true q595) | (go_at_call 28; (with_reducible refine (card_Inverse.calls k1 _ _ (rd_L11 l0 x6_1) t596 t597 _ ?side1 ?side2 A13.out).mono ?_); (case side1 => exact zc (Kd.C_below HR595_0.out HB.out)); (case side2 => exact HC595_0.out); rintro e w20 ⟨v598, rfl, ho0, hb⟩; replace HO594 := Aside0.mk (Kd.S_below (by (with_reducible repeat (first | apply Kd.S_alloc | apply Kd.S_drewN | apply Kd.S_drew)); exact HO594.out) hb); have HO599 := Aside0.mk (Kd.R_lower ho0 (below_size zh)); replace HB := zd hb; (try clear hb); (try clear ho0); obtain ⟨Ao21, co21, eo21⟩ := Kd.S_slice HO594.out; subst eo21; have p600 : 0 ≤ (x6_1 : Int) := zp; have q600 : x6_1 < (y592.length : Int) := zp; obtain ⟨ad600, A600_0, c600_0, e600, hx600_0, hl600_0, hi600_0⟩ := at_L7 (Kd.S_reads' HO594.out).2.2 x6_1 p600 q600; cases e600; obtain ⟨ce600, hce600, hMe600, hcc600⟩ := Kd.S_get HO594.out [] x6_1 p600 (by first | exact q600 | exact zp | (have e_ := (Kd.S_reads' HO594.out).1; omega)); obtain ⟨ve600_0, rfl, ge600_0⟩ := hMe600; have hv600_0 := hcc600 0 _ rfl; rw [Nat.add_zero, show ((Kd.slice 54 k54)).sz = 1 from rfl, Nat.mul_one] at hv600_0; replace hv600_0 := Option.some.inj (hv600_0.symm.trans hx600_0); rw [hv600_0] at ge600_0; have HL600_0 := Aside0.mk (show Kd.R k54 54 _ _ _ _ (rd_L7 y592 x6_1) from ge600_0); clear hv600_0 ge600_0; clear hcc600 hce600; have HR600_0 := Aside0.mk hi600_0; have HC600_0 := Aside0.mk hl600_0; clear hi600_0 hl600_0; replace p600 := eq_true p600; replace q600 := eq_true q600) | (go_at_call 29; (with_reducible refine (agonicref05_Inverse.calls k1 _ _ (rd_L7 y592 x6_1) t601 t602 _ ?side1 ?side2 A15.out).mono ?_); (case side1 => repeat (first | exact (by repeat (first | (with_reducible exact HR600_0.out) | (with_reducible refine Kd.C_alloc ?_ _) | (with_reducible refine Kd.C_drewN ?_ _) | (with_reducible refine Kd.C_drew ?_) | exact HR600_0.out)) | (with_reducible refine Kd.C_alloc ?_ _) | (with_reducible refine Kd.C_drewN ?_ _) | (with_reducible refine Kd.C_drew ?_))); (case side2 => exact HC600_0.out); rintro e w22 ⟨v603, rfl, ho0, hb⟩; replace HO594 := Aside0.mk (Kd.S_elder' (by (with_reducible repeat (first | apply Kd.S_alloc | apply Kd.S_drewN | apply Kd.S_drew)); exact HO594.out) (Kd.R_base ho0) hb); replace HO599 := zr HO599 hb; have HO604 := Aside0.mk (Kd.R_lower (Kd.R_new' ho0 (Kd.R_lt (zo HL600_0.out))) (below_size zh)); replace HL600_0 := Aside0.mk (Kd.R_elder' (zo HL600_0.out) (Kd.R_base ho0) hb); replace HR600_0 := Aside0.mk (Kd.C_below (by repeat (first | (with_reducible exact HR600_0.out) | (with_reducible refine Kd.C_alloc ?_ _) | (with_reducible refine Kd.C_drewN ?_ _) | (with_reducible refine Kd.C_drew ?_) | exact HR600_0.out)) hb); replace HB := zd hb; (try clear hb); (try clear ho0))))
         (try simp only [Act.put, List.setIfInBounds_toArray, List.set_cons_zero, List.set_cons_succ])
         go_cut [66] (fun v66 wc => ∃ (kq : Nat) (x66_15 : Bool), v66 = .bool x66_15 ∧ Aside0 (agoniclaw05_CardFollows.j1 kq l0 a1 y592 x6_1 t596 t601 x66_15 = some true) ∧ Aside0 (kq ≤ k1) ∧ Aside0 (Kd.S (Kd.slice 54 k54) 26 wc w.heap.size (fun k_ => some k_ ≠ (v603 : Value).ownBlock) (.slice (some ad600) y592.length co21) y592) ∧ Aside0 (Kd.R k55 55 wc w.heap.size (fun _ => True) v598 t596) ∧ Aside0 (Kd.R k54 54 wc w.heap.size (fun _ => True) v603 t601) ∧ Aside0 (Kd.C k54 wc A600_0 (rd_L7 y592 x6_1).length (rd_L7 y592 x6_1)) ∧ Aside0 (Below w.heap.size w wc))
         case first =>
          have H := HC16.out
          clear HC16
          by_cases c23 : t597 = t602
          ·rw [if_pos c23] at H
           have c23b0 : (t597 == t602) = true := beq_iff_eq.mpr c23
           have c23b1 : (t597 != t602) = false := bne_eq_false_iff_eq.mpr c23
           clear c23
           (first | rw [c23b0] | (simp only [i64_w, i32_w]; rw [c23b0]) | skip)
           have H' := Aside0.mk H
           clear H
           obtain ⟨Ao24, co24, eo24⟩ := Kd.R_slice HO599.out
           subst eo24
           obtain ⟨Ao25, co25, eo25⟩ := Kd.R_slice HO604.out
           subst eo25
           go_wp2
           repeat (go_quiet (fail); try go_wp2)
           go_meet
           case rel => exact ⟨_, (((t596.length : Int) != (t601.length : Int))), (by first | rfl | (simp; done) | (simp [*]; done)), H', ⟨by have := HK1.out; first | omega | exact Nat.le_refl _⟩, ⟨by (with_reducible repeat (first | apply Kd.S_alloc | apply Kd.S_drewN | apply Kd.S_drew)); exact Kd.S_mono HO594.out (fun _ hk => hk.2)⟩, ⟨by refine zl ?_; exact HO599.out⟩, ⟨by refine zl ?_; exact Kd.R_mono HO604.out (fun _ hk => trivial)⟩, ⟨by repeat (first | (with_reducible exact HR600_0.out) | (with_reducible refine Kd.C_alloc ?_ _) | (with_reducible refine Kd.C_drewN ?_ _) | (with_reducible refine Kd.C_drew ?_) | exact HR600_0.out)⟩, ⟨zh⟩⟩
          ·rw [if_neg c23] at H
           have c23b0 : (t597 == t602) = false := beq_eq_false_iff_ne.mpr c23
           have c23b1 : (t597 != t602) = true := bne_iff_ne.mpr c23
           (first | rw [c23b0] | (simp only [i64_w, i32_w]; rw [c23b0]) | skip)
           have H' := Aside0.mk H
           clear H
           go_wp2
           repeat (go_quiet (fail); try go_wp2)
           go_meet
           case rel => exact ⟨_, (true), (by first | rfl | (simp; done) | (simp [*]; done)), H', ⟨by have := HK1.out; first | omega | exact Nat.le_refl _⟩, ⟨by (with_reducible repeat (first | apply Kd.S_alloc | apply Kd.S_drewN | apply Kd.S_drew)); exact Kd.S_mono HO594.out (fun _ hk => hk.2)⟩, ⟨by refine zl ?_; exact HO599.out⟩, ⟨by refine zl ?_; exact Kd.R_mono HO604.out (fun _ hk => trivial)⟩, ⟨by repeat (first | (with_reducible exact HR600_0.out) | (with_reducible refine Kd.C_alloc ?_ _) | (with_reducible refine Kd.C_drewN ?_ _) | (with_reducible refine Kd.C_drew ?_) | exact HR600_0.out)⟩, ⟨zh⟩⟩
         case rest =>
          clear HC16
          try clear c1
          try clear c2
          try clear p2
          try clear c3
          try clear c3b0
          try clear c3b1
          try clear c5
          try clear p5
          try clear q5
          try clear hx5
          try clear c6
          try clear c6b0
          try clear p6
          try clear q6
          try clear hx6
          try clear c7
          try clear c7b0
          try clear c8
          try clear c8b0
          try clear c8b1
          try clear c12
          try clear c14
          try clear c14b0
          try clear c23
          try clear c23b0
          try clear c23b1
          try clear hx586_0
          try clear hx588_0
          try clear hx595_0
          try clear hx600_0
          try clear p2
          try clear p586
          try clear p588
          try clear p595
          try clear p600
          try clear q586
          try clear q588
          try clear q595
          try clear q600
          obtain ⟨kq, x66_15, rfl, HA, HJ15, HO_5, HO_7, HO_9, HR600_0, HB⟩ := hcut
          cases kq with
          | zero => exact absurd HA.out (by simp [agoniclaw05_CardFollows.j1])
          | succ kj15 =>
           have H := HA.out
           clear HA
           simp only [agoniclaw05_CardFollows.j1] at H
           by_cases c26 : x66_15 = true
           ·subst c26
            rw [if_pos rfl] at H
            exact absurd (Option.some.inj H) (by decide)
           ·replace c26 := Bool.eq_false_iff.mpr c26
            subst c26
            rw [if_neg (show ¬ (false = true) by decide)] at H
            have H' := Aside0.mk H
            clear H
            go_wp2
            repeat (go_quiet (fail); try go_wp2)
            go_loopg [11] kj15 (fun kq v11 w' => ∃ (x11_3 : Int), v11 = .int .i64 x11_3 ∧ Aside0 (agoniclaw05_CardFollows.l1 kq l0 a1 y592 x6_1 t596 t601 x11_3 = some true) ∧ Aside0 (kq ≤ kj15) ∧ Aside0 (Kd.S (Kd.slice 54 k54) 26 w' w.heap.size (fun k_ => some k_ ≠ (v603 : Value).ownBlock) (.slice (some ad600) y592.length co21) y592) ∧ Aside0 (Kd.R k55 55 w' w.heap.size (fun _ => True) v598 t596) ∧ Aside0 (Kd.R k54 54 w' w.heap.size (fun _ => True) v603 t601) ∧ Aside0 (Kd.C k54 w' A600_0 (rd_L7 y592 x6_1).length (rd_L7 y592 x6_1)) ∧ Aside0 (Below w.heap.size w w'))
            case atStart => exact ⟨(0), (by first | rfl | (simp; done) | (simp [*]; done)), H', ⟨Nat.le_refl _⟩, ⟨by (with_reducible repeat (first | apply Kd.S_alloc | apply Kd.S_drewN | apply Kd.S_drew)); exact HO_5.out⟩, ⟨by refine zl ?_; exact HO_7.out⟩, ⟨by refine zl ?_; exact HO_9.out⟩, ⟨by repeat (first | (with_reducible exact HR600_0.out) | (with_reducible refine Kd.C_alloc ?_ _) | (with_reducible refine Kd.C_drewN ?_ _) | (with_reducible refine Kd.C_drew ?_) | exact HR600_0.out)⟩, ⟨zh⟩⟩
            case round =>
             clear H'
             try clear c1
             try clear c2
             try clear p2
             try clear c3
             try clear c3b0
             try clear c3b1
             try clear c5
             try clear p5
             try clear q5
             try clear hx5
             try clear c6
             try clear c6b0
             try clear p6
             try clear q6
             try clear hx6
             try clear c7
             try clear c7b0
             try clear c8
             try clear c8b0
             try clear c8b1
             try clear c12
             try clear c14
             try clear c14b0
             try clear c23
             try clear c23b0
             try clear c23b1
             try clear c26
             try clear hx586_0
             try clear hx588_0
             try clear hx595_0
             try clear hx600_0
             try clear p2
             try clear p5
             try clear p586
             try clear p588
             try clear p595
             try clear p6
             try clear p600
             try clear q5
             try clear q586
             try clear q588
             try clear q595
             try clear q6
             try clear q600
             obtain ⟨x11_3, rfl, HA, HK3, HO_5, HO_7, HO_9, HR600_0, HB⟩ := hrel
             cases gk with
             | zero => exact absurd HA.out (by simp [agoniclaw05_CardFollows.l1])
             | succ k3 =>
              have H := HA.out
              clear HA
              simp only [agoniclaw05_CardFollows.l1] at H
              by_cases c27 : x11_3 < (t596.length : Int)
              ·rw [if_pos c27] at H
               have c27b0 : decide (x11_3 < (t596.length : Int)) = true := decide_eq_true c27
               clear c27
               by_cases c28 : 0 ≤ x11_3
               ·rw [if_pos c28] at H
                have c28b0 : decide (0 ≤ x11_3) = true := decide_eq_true c28
                clear c28
                by_cases c29 : x11_3 < (t601.length : Int)
                ·rw [if_pos c29] at H
                 have c29b0 : decide (x11_3 < (t601.length : Int)) = true := decide_eq_true c29
                 clear c29
                 by_cases c30 : (!(((rd_T55 t596 x11_3).f0) == ((rd_T54 t601 x11_3).f0)) || (!(((rd_T55 t596 x11_3).f1) == ((rd_T54 t601 x11_3).f1)))) = true
                 ·rw [if_pos c30] at H
                  have c30b0 : (!(((rd_T55 t596 x11_3).f0) == ((rd_T54 t601 x11_3).f0)) || (!(((rd_T55 t596 x11_3).f1) == ((rd_T54 t601 x11_3).f1)))) = true := c30
                  clear c30
                  exact absurd (Option.some.inj H) (by decide)
                 ·rw [if_neg c30] at H
                  have c30b0 : (!(((rd_T55 t596 x11_3).f0) == ((rd_T54 t601 x11_3).f0)) || (!(((rd_T55 t596 x11_3).f1) == ((rd_T54 t601 x11_3).f1)))) = false := by simpa using c30
                  clear c30
                  have H' := Aside0.mk H
                  clear H
                  obtain ⟨Ao33, co33, eo33⟩ := Kd.R_slice HO_7.out
                  subst eo33
                  have p605 : 0 ≤ (x11_3 : Int) := zp
                  have q605 : x11_3 < (t596.length : Int) := zp
                  obtain ⟨ad605, e605, hx605_0, hx605_1⟩ := at_T55 (Kd.R_reads' HO_7.out).2.2 x11_3 p605 q605
                  cases e605
                  replace p605 := eq_true p605
                  replace q605 := eq_true q605
                  obtain ⟨Ao34, co34, eo34⟩ := Kd.R_slice HO_9.out
                  subst eo34
                  have p606 : 0 ≤ (x11_3 : Int) := zp
                  have q606 : x11_3 < (t601.length : Int) := zp
                  obtain ⟨ad606, e606, hx606_0, hx606_1⟩ := at_T54 (Kd.R_reads' HO_9.out).2.2 x11_3 p606 q606
                  cases e606
                  replace p606 := eq_true p606
                  replace q606 := eq_true q606
                  go_wp2
                  repeat (go_quiet (fail); try go_wp2)
                  go_roundg k3
                  case measure => have := HK1.out; have := HJ15.out; have := HK3.out; omega
                  case rel => exact ⟨(wrap64 (x11_3 + 1)), (by first | rfl | (simp; done) | (simp [*]; done)), H', ⟨by have := HK1.out; have := HJ15.out; have := HK3.out; omega⟩, ⟨by (with_reducible repeat (first | apply Kd.S_alloc | apply Kd.S_drewN | apply Kd.S_drew)); exact HO_5.out⟩, ⟨by refine zl ?_; exact HO_7.out⟩, ⟨by refine zl ?_; exact HO_9.out⟩, ⟨by repeat (first | (with_reducible exact HR600_0.out) | (with_reducible refine Kd.C_alloc ?_ _) | (with_reducible refine Kd.C_drewN ?_ _) | (with_reducible refine Kd.C_drew ?_) | exact HR600_0.out)⟩, ⟨zh⟩⟩
                ·rw [if_neg c29] at H
                 exact absurd H (by simp)
               ·rw [if_neg c28] at H
                exact absurd H (by simp)
              ·rw [if_neg c27] at H
               have c27b0 : decide (x11_3 < (t596.length : Int)) = false := decide_eq_false c27
               clear c27
               have H' := Aside0.mk H
               clear H
               obtain ⟨Ao35, co35, eo35⟩ := Kd.R_slice HO_7.out
               subst eo35
               go_wp2
               repeat (go_quiet (fail); try go_wp2)
               go_roundg k3
               case measure => have := HK1.out; have := HJ15.out; have := HK3.out; omega
               case rel => exact ⟨(y592), (wrap64 (x6_1 + 1)), (by first | rfl | (simp; done) | (simp [*]; done)), H', ⟨by have := HK1.out; have := HJ15.out; have := HK3.out; omega⟩, ⟨by (with_reducible repeat (first | apply Kd.S_alloc | apply Kd.S_drewN | apply Kd.S_drew)); exact Kd.S_mono HO_5.out (fun _ hk => trivial)⟩, ⟨zh⟩⟩
        ·rw [if_neg c14] at H
         exact absurd H (by simp)
       ·rw [if_neg c12] at H
        exact absurd H (by simp)
     ·rw [if_neg c7] at H
      exact absurd H (by simp)
    ·rw [if_neg c6] at H
     have c6b0 : decide (x6_1 < (l0.length : Int)) = false := decide_eq_false c6
     clear c6
     replace H := zi H
     obtain ⟨⟨t577, t578, t579⟩, A360, H⟩ := H
     try dsimp only at H
     have A36 := Aside0.mk A360
     clear A360
     replace H := zi H
     obtain ⟨⟨t581, t582, t583⟩, A370, H⟩ := H
     try dsimp only at H
     have A37 := Aside0.mk A370
     clear A370
     by_cases c38 : (t577 == t581 && (t578 == t582)) = true
     ·rw [if_pos c38] at H
      have c38b0 : (t577 == t581 && (t578 == t582)) = true := c38
      (try (have c38b1 : decide (t577 = t581 && (t578 == t582)) = true := by simpa using c38))
      (try (have c38b2 : (t577 == t581 && (t578 == t582)) = true := by simpa using c38))
      clear c38
      by_cases c39 : t579 = t583
      ·rw [if_pos c39] at H
       have c39b0 : (t579 == t583) = true := beq_iff_eq.mpr c39
       have c39b1 : (t579 != t583) = false := bne_eq_false_iff_eq.mpr c39
       clear c39
       replace H := zi H
       obtain ⟨t585, A400, H⟩ := H
       try dsimp only at H
       have A40 := Aside0.mk A400
       clear A400
       obtain rfl := Option.some.inj H
       go_wp2_with (first | (go_at_call 30; (with_reducible refine (card_Follow.calls k1 _ _ l0 a1 t577 t578 t579 _ ?side1 ?side2 A36.out).mono ?_); (case side1 => exact zc (Kd.C_below HR0.out HB.out)); (case side2 => exact HC0.out); rintro e w41 ⟨rfl, hb⟩; replace HO_5 := Aside0.mk (Kd.S_below (by (with_reducible repeat (first | apply Kd.S_alloc | apply Kd.S_drewN | apply Kd.S_drew)); exact HO_5.out) hb); replace HB := zd hb; (try clear hb)) | ((with_reducible refine gD 12 rfl ?_); (try (refine gate_guard (by rfl) ?_; dsimp only)); refine zx 12 #[.int .i64 0, .int .i64 0] 29 ?_; intro gb580 hg w42 hbox hb; replace HO_5 := Aside0.mk (Kd.S_below (by (with_reducible repeat (first | apply Kd.S_alloc | apply Kd.S_drewN | apply Kd.S_drew)); exact HO_5.out) hb); have BK580 := Aside0.mk (hbox); have GE580 := zG w hg; replace HB := zd hb; clear hb hbox hg; have hcz43_0 : w42.cell? ⟨gb580, 0, none⟩ = some (.int .i64 0) := zy BK580 0; have hcz43_1 : w42.cell? ⟨gb580, 1, none⟩ = some (.int .i64 0) := zy BK580 1; have hfz43_0 := blk_frozen BK580.out 0; have hfz43_1 := blk_frozen BK580.out 1; obtain ⟨Ao44, co44, eo44⟩ := Kd.S_slice HO_5.out; subst eo44) | (go_at_call 31; (with_reducible refine (agonicref05_Follow.calls k1 _ _ x5_1 a1 t581 t582 t583 _ ?side1 ?side2 A37.out).mono ?_); (case side1 => refine (Kd.S_reads' (e := 26) (base := w.heap.size) (ok := fun k_ => True) (n := x5_1.length) (c := co44) ?_).2.2; exact (by (with_reducible repeat (first | apply Kd.S_alloc | apply Kd.S_drewN | apply Kd.S_drew)); exact (Kd.S_mono (Kd.S_far (p := ⟨gb580, 1, none⟩) (Kd.S_far (p := ⟨gb580, 0, none⟩) (Kd.S_types HO_5.out BK580.out (by decide)) (fun _ hk => hk.2) (.int .i64 t577)) (fun _ hk => hk.2) (.int .i64 t578)) (fun _ h_ => h_.1)))); (case side2 => exact (Kd.S_reads' HO_5.out).2.1); rintro e w45 ⟨rfl, hb⟩; replace HO_5 := Aside0.mk (Kd.S_below (by (with_reducible repeat (first | apply Kd.S_alloc | apply Kd.S_drewN | apply Kd.S_drew)); exact (Kd.S_mono (Kd.S_far (p := ⟨gb580, 1, none⟩) (Kd.S_far (p := ⟨gb580, 0, none⟩) (Kd.S_types HO_5.out BK580.out (by decide)) (fun _ hk => hk.2) (.int .i64 t577)) (fun _ hk => hk.2) (.int .i64 t578)) (fun _ h_ => h_.1))) hb); replace BK580 := Aside0.mk (blk_below (g := gb580) (o := .cells #[.int .i64 t577, .int .i64 t578] 29 (0, 0)) (by refine zm ?_; refine blk_put (cs := #[.int .i64 t577, .int .i64 0]) ?_ 1 _ rfl; refine zm ?_; refine blk_put (cs := #[.int .i64 0, .int .i64 0]) ?_ 0 _ rfl; refine zm ?_; exact BK580.out) hb); replace HB := zd hb; (try clear hb); (try clear hk)) | ((with_reducible refine gD 14 rfl ?_); (try (refine gate_guard (by rfl) ?_; dsimp only)); refine zx 14 #[.int .i64 0, .int .i64 0] 29 ?_; intro gb584 hg w46 hbox hb; replace HO_5 := Aside0.mk (Kd.S_below (by (with_reducible repeat (first | apply Kd.S_alloc | apply Kd.S_drewN | apply Kd.S_drew)); exact HO_5.out) hb); have BK584 := Aside0.mk (hbox); have GE584 := zG w hg; replace HB := zd hb; have NB580_584 := zN BK580 hg; have NB584_580 := zM BK580 hg; replace BK580 := zk BK580 hb; clear hb hbox hg; have hnb47 := NB584_580.out; have hnc47 := NB580_584.out; have hcz48_0 : w46.cell? ⟨gb584, 0, none⟩ = some (.int .i64 0) := zy BK584 0; have hcz48_1 : w46.cell? ⟨gb584, 1, none⟩ = some (.int .i64 0) := zy BK584 1; have hfz48_0 := blk_frozen BK584.out 0; have hfz48_1 := blk_frozen BK584.out 1; have hcz49_0 : w46.cell? ⟨gb580, 0, none⟩ = some (.int .i64 t577) := zy BK580 0; have hcz49_1 : w46.cell? ⟨gb580, 1, none⟩ = some (.int .i64 t578) := zy BK580 1; have hfz49_0 := blk_frozen BK580.out 0; have hfz49_1 := blk_frozen BK580.out 1) | (go_at_call 14; (with_reducible refine (agoniclaw05_works.calls  true _ A40.out).mono ?_); rintro e w50 ⟨rfl, hb⟩; replace HO_5 := Aside0.mk (Kd.S_below (by (with_reducible repeat (first | apply Kd.S_alloc | apply Kd.S_drewN | apply Kd.S_drew)); exact (Kd.S_mono (Kd.S_far (p := ⟨gb584, 1, none⟩) (Kd.S_far (p := ⟨gb584, 0, none⟩) (Kd.S_types HO_5.out BK584.out (by decide)) (fun _ hk => hk.2) (.int .i64 t581)) (fun _ hk => hk.2) (.int .i64 t582)) (fun _ h_ => h_.1))) hb); replace BK580 := Aside0.mk (blk_below (g := gb580) (o := .cells #[.int .i64 t577, .int .i64 t578] 29 (0, 0)) (by refine zm ?_; refine blk_far ?_ NB580_584.out _; refine zm ?_; refine blk_far ?_ NB580_584.out _; refine zm ?_; exact BK580.out) hb); replace BK584 := Aside0.mk (blk_below (g := gb584) (o := .cells #[.int .i64 t581, .int .i64 t582] 29 (0, 0)) (by refine zm ?_; refine blk_put (cs := #[.int .i64 t581, .int .i64 0]) ?_ 1 _ rfl; refine zm ?_; refine blk_put (cs := #[.int .i64 0, .int .i64 0]) ?_ 0 _ rfl; refine zm ?_; exact BK584.out) hb); replace HB := zd hb; (try clear hb); (try clear hk)))
       repeat (go_quiet (first | (go_at_call 30; (with_reducible refine (card_Follow.calls k1 _ _ l0 a1 t577 t578 t579 _ ?side1 ?side2 A36.out).mono ?_); (case side1 => exact zc (Kd.C_below HR0.out HB.out)); (case side2 => exact HC0.out); rintro e w41 ⟨rfl, hb⟩; replace HO_5 := Aside0.mk (Kd.S_below (by (with_reducible repeat (first | apply Kd.S_alloc | apply Kd.S_drewN | apply Kd.S_drew)); exact HO_5.out) hb); replace HB := zd hb; (try clear hb)) | ((with_reducible refine gD 12 rfl ?_); (try (refine gate_guard (by rfl) ?_; dsimp only)); refine zx 12 #[.int .i64 0, .int .i64 0] 29 ?_; intro gb580 hg w42 hbox hb; replace HO_5 := Aside0.mk (Kd.S_below (by (with_reducible repeat (first | apply Kd.S_alloc | apply Kd.S_drewN | apply Kd.S_drew)); exact HO_5.out) hb); have BK580 := Aside0.mk (hbox); have GE580 := zG w hg; replace HB := zd hb; clear hb hbox hg; have hcz43_0 : w42.cell? ⟨gb580, 0, none⟩ = some (.int .i64 0) := zy BK580 0; have hcz43_1 : w42.cell? ⟨gb580, 1, none⟩ = some (.int .i64 0) := zy BK580 1; have hfz43_0 := blk_frozen BK580.out 0; have hfz43_1 := blk_frozen BK580.out 1; obtain ⟨Ao44, co44, eo44⟩ := Kd.S_slice HO_5.out; subst eo44) | (go_at_call 31; (with_reducible refine (agonicref05_Follow.calls k1 _ _ x5_1 a1 t581 t582 t583 _ ?side1 ?side2 A37.out).mono ?_); (case side1 => refine (Kd.S_reads' (e := 26) (base := w.heap.size) (ok := fun k_ => True) (n := x5_1.length) (c := co44) ?_).2.2; exact (by (with_reducible repeat (first | apply Kd.S_alloc | apply Kd.S_drewN | apply Kd.S_drew)); exact (Kd.S_mono (Kd.S_far (p := ⟨gb580, 1, none⟩) (Kd.S_far (p := ⟨gb580, 0, none⟩) (Kd.S_types HO_5.out BK580.out (by decide)) (fun _ hk => hk.2) (.int .i64 t577)) (fun _ hk => hk.2) (.int .i64 t578)) (fun _ h_ => h_.1)))); (case side2 => exact (Kd.S_reads' HO_5.out).2.1); rintro e w45 ⟨rfl, hb⟩; replace HO_5 := Aside0.mk (Kd.S_below (by (with_reducible repeat (first | apply Kd.S_alloc | apply Kd.S_drewN | apply Kd.S_drew)); exact (Kd.S_mono (Kd.S_far (p := ⟨gb580, 1, none⟩) (Kd.S_far (p := ⟨gb580, 0, none⟩) (Kd.S_types HO_5.out BK580.out (by decide)) (fun _ hk => hk.2) (.int .i64 t577)) (fun _ hk => hk.2) (.int .i64 t578)) (fun _ h_ => h_.1))) hb); replace BK580 := Aside0.mk (blk_below (g := gb580) (o := .cells #[.int .i64 t577, .int .i64 t578] 29 (0, 0)) (by refine zm ?_; refine blk_put (cs := #[.int .i64 t577, .int .i64 0]) ?_ 1 _ rfl; refine zm ?_; refine blk_put (cs := #[.int .i64 0, .int .i64 0]) ?_ 0 _ rfl; refine zm ?_; exact BK580.out) hb); replace HB := zd hb; (try clear hb); (try clear hk)) | ((with_reducible refine gD 14 rfl ?_); (try (refine gate_guard (by rfl) ?_; dsimp only)); refine zx 14 #[.int .i64 0, .int .i64 0] 29 ?_; intro gb584 hg w46 hbox hb; replace HO_5 := Aside0.mk (Kd.S_below (by (with_reducible repeat (first | apply Kd.S_alloc | apply Kd.S_drewN | apply Kd.S_drew)); exact HO_5.out) hb); have BK584 := Aside0.mk (hbox); have GE584 := zG w hg; replace HB := zd hb; have NB580_584 := zN BK580 hg; have NB584_580 := zM BK580 hg; replace BK580 := zk BK580 hb; clear hb hbox hg; have hnb47 := NB584_580.out; have hnc47 := NB580_584.out; have hcz48_0 : w46.cell? ⟨gb584, 0, none⟩ = some (.int .i64 0) := zy BK584 0; have hcz48_1 : w46.cell? ⟨gb584, 1, none⟩ = some (.int .i64 0) := zy BK584 1; have hfz48_0 := blk_frozen BK584.out 0; have hfz48_1 := blk_frozen BK584.out 1; have hcz49_0 : w46.cell? ⟨gb580, 0, none⟩ = some (.int .i64 t577) := zy BK580 0; have hcz49_1 : w46.cell? ⟨gb580, 1, none⟩ = some (.int .i64 t578) := zy BK580 1; have hfz49_0 := blk_frozen BK580.out 0; have hfz49_1 := blk_frozen BK580.out 1) | (go_at_call 14; (with_reducible refine (agoniclaw05_works.calls  true _ A40.out).mono ?_); rintro e w50 ⟨rfl, hb⟩; replace HO_5 := Aside0.mk (Kd.S_below (by (with_reducible repeat (first | apply Kd.S_alloc | apply Kd.S_drewN | apply Kd.S_drew)); exact (Kd.S_mono (Kd.S_far (p := ⟨gb584, 1, none⟩) (Kd.S_far (p := ⟨gb584, 0, none⟩) (Kd.S_types HO_5.out BK584.out (by decide)) (fun _ hk => hk.2) (.int .i64 t581)) (fun _ hk => hk.2) (.int .i64 t582)) (fun _ h_ => h_.1))) hb); replace BK580 := Aside0.mk (blk_below (g := gb580) (o := .cells #[.int .i64 t577, .int .i64 t578] 29 (0, 0)) (by refine zm ?_; refine blk_far ?_ NB580_584.out _; refine zm ?_; refine blk_far ?_ NB580_584.out _; refine zm ?_; exact BK580.out) hb); replace BK584 := Aside0.mk (blk_below (g := gb584) (o := .cells #[.int .i64 t581, .int .i64 t582] 29 (0, 0)) (by refine zm ?_; refine blk_put (cs := #[.int .i64 t581, .int .i64 0]) ?_ 1 _ rfl; refine zm ?_; refine blk_put (cs := #[.int .i64 0, .int .i64 0]) ?_ 0 _ rfl; refine zm ?_; exact BK584.out) hb); replace HB := zd hb; (try clear hb); (try clear hk))); try go_wp2_with (first | (go_at_call 30; (with_reducible refine (card_Follow.calls k1 _ _ l0 a1 t577 t578 t579 _ ?side1 ?side2 A36.out).mono ?_); (case side1 => exact zc (Kd.C_below HR0.out HB.out)); (case side2 => exact HC0.out); rintro e w41 ⟨rfl, hb⟩; replace HO_5 := Aside0.mk (Kd.S_below (by (with_reducible repeat (first | apply Kd.S_alloc | apply Kd.S_drewN | apply Kd.S_drew)); exact HO_5.out) hb); replace HB := zd hb; (try clear hb)) | ((with_reducible refine gD 12 rfl ?_); (try (refine gate_guard (by rfl) ?_; dsimp only)); refine zx 12 #[.int .i64 0, .int .i64 0] 29 ?_; intro gb580 hg w42 hbox hb; replace HO_5 := Aside0.mk (Kd.S_below (by (with_reducible repeat (first | apply Kd.S_alloc | apply Kd.S_drewN | apply Kd.S_drew)); exact HO_5.out) hb); have BK580 := Aside0.mk (hbox); have GE580 := zG w hg; replace HB := zd hb; clear hb hbox hg; have hcz43_0 : w42.cell? ⟨gb580, 0, none⟩ = some (.int .i64 0) := zy BK580 0; have hcz43_1 : w42.cell? ⟨gb580, 1, none⟩ = some (.int .i64 0) := zy BK580 1; have hfz43_0 := blk_frozen BK580.out 0; have hfz43_1 := blk_frozen BK580.out 1; obtain ⟨Ao44, co44, eo44⟩ := Kd.S_slice HO_5.out; subst eo44) | (go_at_call 31; (with_reducible refine (agonicref05_Follow.calls k1 _ _ x5_1 a1 t581 t582 t583 _ ?side1 ?side2 A37.out).mono ?_); (case side1 => refine (Kd.S_reads' (e := 26) (base := w.heap.size) (ok := fun k_ => True) (n := x5_1.length) (c := co44) ?_).2.2; exact (by (with_reducible repeat (first | apply Kd.S_alloc | apply Kd.S_drewN | apply Kd.S_drew)); exact (Kd.S_mono (Kd.S_far (p := ⟨gb580, 1, none⟩) (Kd.S_far (p := ⟨gb580, 0, none⟩) (Kd.S_types HO_5.out BK580.out (by decide)) (fun _ hk => hk.2) (.int .i64 t577)) (fun _ hk => hk.2) (.int .i64 t578)) (fun _ h_ => h_.1)))); (case side2 => exact (Kd.S_reads' HO_5.out).2.1); rintro e w45 ⟨rfl, hb⟩; replace BK580 := Aside0.mk (blk_below (g := gb580) (o := .cells #[.int .i64 t577, .int .i64 t578] 29 (0, 0)) (by refine zm ?_; refine blk_put (cs := #[.int .i64 t577, .int .i64 0]) ?_ 1 _ rfl; refine zm ?_; refine blk_put (cs := #[.int .i64 0, .int .i64 0]) ?_ 0 _ rfl; refine zm ?_; exact BK580.out) hb); replace HB := zd hb; (try clear hb); (try clear hk)) | ((with_reducible refine gD 14 rfl ?_); (try (refine gate_guard (by rfl) ?_; dsimp only)); refine zx 14 #[.int .i64 0, .int .i64 0] 29 ?_; intro gb584 hg w46 hbox hb; have BK584 := Aside0.mk (hbox); have GE584 := zG w hg; replace HB := zd hb; have NB580_584 := zN BK580 hg; have NB584_580 := zM BK580 hg; replace BK580 := zk BK580 hb; clear hb hbox hg; have hnb47 := NB584_580.out; have hnc47 := NB580_584.out; have hcz48_0 : w46.cell? ⟨gb584, 0, none⟩ = some (.int .i64 0) := zy BK584 0; have hcz48_1 : w46.cell? ⟨gb584, 1, none⟩ = some (.int .i64 0) := zy BK584 1; have hfz48_0 := blk_frozen BK584.out 0; have hfz48_1 := blk_frozen BK584.out 1; have hcz49_0 : w46.cell? ⟨gb580, 0, none⟩ = some (.int .i64 t577) := zy BK580 0; have hcz49_1 : w46.cell? ⟨gb580, 1, none⟩ = some (.int .i64 t578) := zy BK580 1; have hfz49_0 := blk_frozen BK580.out 0; have hfz49_1 := blk_frozen BK580.out 1) | (go_at_call 14; (with_reducible refine (agoniclaw05_works.calls  true _ A40.out).mono ?_); rintro e w50 ⟨rfl, hb⟩; replace HB := zd hb; (try clear hb); (try clear hk))))
       go_ret
       exact ⟨ze, zh⟩
      ·rw [if_neg c39] at H
       have c39b0 : (t579 == t583) = false := beq_eq_false_iff_ne.mpr c39
       have c39b1 : (t579 != t583) = true := bne_iff_ne.mpr c39
       exact absurd (Option.some.inj H) (by decide)
     ·rw [if_neg c38] at H
      have c38b0 : (t577 == t581 && (t578 == t582)) = false := by simpa using c38
      (try (have c38b1 : decide (t577 = t581 && (t578 == t582)) = false := by simpa using c38))
      (try (have c38b2 : (t577 == t581 && (t578 == t582)) = false := by simpa using c38))
      (try (have c38b3 : ¬ (t577 = t581 && (t578 == t582)) := by simpa using c38))
      clear c38
      exact absurd (Option.some.inj H) (by decide)
-- NOT PRINTED: function 7 (agoniclaw05_CardOnce)
end Go.Proofs.Ytccjefoejjnccaa.C
