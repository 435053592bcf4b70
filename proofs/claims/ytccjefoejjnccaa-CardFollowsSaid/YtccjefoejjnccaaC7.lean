-- Written by a program of this session (wip/tools/myprint.py, over the kit's print).
import Derived.Test.YtccjefoejjnccaaC0
import Derived.Test.YtccjefoejjnccaaC6
import Derived.Test.YtccjefoejjnccaaZ
namespace Go.Proofs.Ytccjefoejjnccaa.C
open Go.RowKit Go.Proofs.YtccjefoejjnccaaW.PrintWords Go.Proofs.YtccjefoejjnccaaW.PrintLast Go.Proofs.YtccjefoejjnccaaW.PrintMore
attribute [local go_sem] max2_int min2_int max_two min_two max_three min_three max_four min_four   -- for this text's walks alone
set_option linter.unusedVariables false
set_option linter.unusedSimpArgs false
mutual
def agonicref05_Check.l0 : Nat → List (S54) → Int → Option (Int)
 | 0, _, _ => none
 | k + 1, x0, x3 => if x3 < (x0.length : Int) then (if 0 ≤ x3 then ((agonicref05_heading.f ((rd_T54 x0 x3).f0)).bind fun t181 => (if t181 = true then ((agonicref05_is.f ((rd_T54 x0 x3).f1) (-900) 900).bind fun t183 => (agonicref05_Check.j1 k x0 x3 (!t183))) else (agonicref05_Check.j1 k x0 x3 true))) else (none)) else (some 0)
def agonicref05_Check.j1 : Nat → List (S54) → Int → Bool → Option (Int)
 | 0, _, _, _ => none
 | k + 1, x0, x3, x31 => if x31 = true then (some 1) else (if x3 > 0 then (if 0 ≤ x3 then (if x3 < (x0.length : Int) then (if 0 ≤ (wrap64 (x3 - 1)) then (if (wrap64 (x3 - 1)) < (x0.length : Int) then (agonicref05_Check.j2 k x0 x3 (((rd_T54 x0 x3).f0) == ((rd_T54 x0 (wrap64 (x3 - 1))).f0))) else (none)) else (none)) else (none)) else (none)) else (agonicref05_Check.j2 k x0 x3 false))
def agonicref05_Check.j2 : Nat → List (S54) → Int → Bool → Option (Int)
 | 0, _, _, _ => none
 | k + 1, x0, x3, x47 => if x47 = true then (some 7) else (if x3 > 0 then (if 0 ≤ x3 then (if x3 < (x0.length : Int) then (if 0 ≤ (wrap64 (x3 - 1)) then (if (wrap64 (x3 - 1)) < (x0.length : Int) then (if ((rd_T54 x0 x3).f0) < ((rd_T54 x0 (wrap64 (x3 - 1))).f0) then (some 5) else (agonicref05_Check.l0 k x0 (wrap64 (x3 + 1)))) else (none)) else (none)) else (none)) else (none)) else (agonicref05_Check.l0 k x0 (wrap64 (x3 + 1))))
end
def agonicref05_Check.f (k : Nat) (l0 : List (S54)) : Option (Int) := if (l0.length : Int) = 0 then (some 2) else (if (l0.length : Int) > 36 then (some 3) else (agonicref05_Check.l0 k l0 0))
set_option maxHeartbeats 8000000 in
set_option maxRecDepth 100000 in
theorem agonicref05_Check.calls (k : Nat) (A0 : Option Addr) (c0 : Nat) (l0 : List (S54)) (r : Int) (w : World) (hr0 : Kd.C k54 w A0 l0.length l0) (hc0 : l0.length ≤ c0) (h : agonicref05_Check.f k l0 = some r) :
  Calls Try.prog 22 #[.slice A0 l0.length c0] w fun e w' => e = .returned (.int .i64 r) ∧ Drawn0 w w' := by
 have HR0 := Aside0.mk hr0
 have HC0 := Aside0.mk hc0
 clear hr0 hc0
 have H : (if (l0.length : Int) = 0 then (some 2) else (if (l0.length : Int) > 36 then (some 3) else (agonicref05_Check.l0 k l0 0))) = some r := h
 clear h
 by_cases c2 : (l0.length : Int) = 0
 ·rw [if_pos c2] at H
  have c2b0 : ((l0.length : Int) == 0) = true := beq_iff_eq.mpr c2
  have c2b1 : ((l0.length : Int) != 0) = false := bne_eq_false_iff_eq.mpr c2
  clear c2
  obtain rfl := Option.some.inj H
  go_enter Try.func22, Try.ntmps22
  go_wp2
  repeat (go_quiet (fail); try go_wp2)
  go_ret
  exact ⟨by first | rfl | (simp; done) | (simp [*]; done), by repeat (first | exact Drawn0.refl _ | apply Drawn0.step)⟩
 ·rw [if_neg c2] at H
  have c2b0 : ((l0.length : Int) == 0) = false := beq_eq_false_iff_ne.mpr c2
  have c2b1 : ((l0.length : Int) != 0) = true := bne_iff_ne.mpr c2
  have c2b2 : ¬ (l0 = []) := fun h_ => c2 (by rw [h_]; rfl)
  by_cases c3 : (l0.length : Int) > 36
  ·rw [if_pos c3] at H
   have c3b0 : decide (36 < (l0.length : Int)) = true := decide_eq_true c3
   have c3b1 : decide (36 < l0.length) = true := decide_eq_true (by omega)
   clear c3
   obtain rfl := Option.some.inj H
   go_enter Try.func22, Try.ntmps22
   go_wp2
   repeat (go_quiet (fail); try go_wp2)
   go_ret
   exact ⟨by first | rfl | (simp; done) | (simp [*]; done), by repeat (first | exact Drawn0.refl _ | apply Drawn0.step)⟩
  ·rw [if_neg c3] at H
   have c3b0 : decide (36 < (l0.length : Int)) = false := decide_eq_false c3
   have c3b1 : decide (36 < l0.length) = false := decide_eq_false (by omega)
   clear c3
   have H' := Aside0.mk H
   clear H
   go_enter Try.func22, Try.ntmps22
   go_wp2
   repeat (go_quiet (fail); try go_wp2)
   go_loopg [3] k (fun kq v3 w' => ∃ (x3_1 : Int), v3 = .int .i64 x3_1 ∧ Aside0 (agonicref05_Check.l0 kq l0 x3_1 = some r) ∧ Aside0 (kq ≤ k) ∧ Drawn0 w w')
   case atStart => exact ⟨(0), (by first | rfl | (simp; done) | (simp [*]; done)), H', ⟨Nat.le_refl _⟩, by repeat (first | exact Drawn0.refl _ | apply Drawn0.step)⟩
   case round =>
    clear H'
    try clear c2
    try clear c2b0
    try clear c2b1
    try clear c2b2
    try clear p2
    try clear c3
    try clear c3b0
    try clear c3b1
    obtain ⟨x3_1, rfl, HA, HK1, ⟨m1, rfl⟩⟩ := hrel
    cases gk with
    | zero => exact absurd HA.out (by simp [agonicref05_Check.l0])
    | succ k1 =>
     have H := HA.out
     clear HA
     simp only [agonicref05_Check.l0] at H
     by_cases c4 : x3_1 < (l0.length : Int)
     ·rw [if_pos c4] at H
      have c4b0 : decide (x3_1 < (l0.length : Int)) = true := decide_eq_true c4
      clear c4
      have HC5 := Aside0.mk H
      clear H
      go_upto_region 8 with (fail)
      repeat (go_quiet (fail); go_upto_region 8 with (fail))
      go_cut [31] (fun v31 wc => ∃ (kq : Nat) (x31_4 : Bool), v31 = .bool x31_4 ∧ Aside0 (agonicref05_Check.j1 kq l0 x3_1 x31_4 = some r) ∧ Aside0 (kq ≤ k1) ∧ Drawn0 w wc)
      case first =>
       have H := HC5.out
       clear HC5
       by_cases c6 : 0 ≤ x3_1
       ·rw [if_pos c6] at H
        have c6b0 : decide (0 ≤ x3_1) = true := decide_eq_true c6
        clear c6
        (first | rw [c6b0] | (simp only [i64_w, i32_w]; rw [c6b0]) | skip)
        replace H := zi H
        obtain ⟨t181, A70, H⟩ := H
        try dsimp only at H
        have A7 := Aside0.mk A70
        clear A70
        by_cases c8 : t181 = true
        ·subst c8
         rw [if_pos rfl] at H
         replace H := zi H
         obtain ⟨t183, A90, H⟩ := H
         try dsimp only at H
         have A9 := Aside0.mk A90
         clear A90
         have H' := Aside0.mk H
         clear H
         have p180 : 0 ≤ (x3_1 : Int) := zp
         have q180 : x3_1 < (l0.length : Int) := zp
         obtain ⟨ad180, e180, hx180_0, hx180_1⟩ := at_T54 HR0.out x3_1 p180 q180
         cases e180
         replace p180 := eq_true p180
         replace q180 := eq_true q180
         go_wp2_with (first | (go_at_call 56; (with_reducible refine (agonicref05_heading.calls ((rd_T54 l0 x3_1).f0) true _ A7.out).mono ?_); rintro e w' ⟨rfl, ⟨nd, rfl⟩⟩; (try first | exact ⟨rfl, _, World.drewN_drewN _ _ _⟩ | exact ⟨rfl, _, Eq.trans (World.drewN_drewN _ _ _) (congrArg (World.drewN _) (Nat.add_assoc _ _ _))⟩); have p182 : 0 ≤ (x3_1 : Int) := zp; have q182 : x3_1 < (l0.length : Int) := zp; obtain ⟨ad182, e182, hx182_0, hx182_1⟩ := at_T54 HR0.out x3_1 p182 q182; obtain rfl : ad180 = ad182 := (by injection e182); replace p182 := eq_true p182; replace q182 := eq_true q182) | (go_at_call 63; (with_reducible refine (agonicref05_is.calls ((rd_T54 l0 x3_1).f1) (-900) 900 t183 _ A9.out).mono ?_); rintro e w' ⟨rfl, ⟨nd, rfl⟩⟩; (try first | exact ⟨rfl, _, World.drewN_drewN _ _ _⟩ | exact ⟨rfl, _, Eq.trans (World.drewN_drewN _ _ _) (congrArg (World.drewN _) (Nat.add_assoc _ _ _))⟩)))
         repeat (go_quiet (first | (go_at_call 56; (with_reducible refine (agonicref05_heading.calls ((rd_T54 l0 x3_1).f0) true _ A7.out).mono ?_); rintro e w' ⟨rfl, ⟨nd, rfl⟩⟩; (try first | exact ⟨rfl, _, World.drewN_drewN _ _ _⟩ | exact ⟨rfl, _, Eq.trans (World.drewN_drewN _ _ _) (congrArg (World.drewN _) (Nat.add_assoc _ _ _))⟩); have p182 : 0 ≤ (x3_1 : Int) := zp; have q182 : x3_1 < (l0.length : Int) := zp; obtain ⟨ad182, e182, hx182_0, hx182_1⟩ := at_T54 HR0.out x3_1 p182 q182; obtain rfl : ad180 = ad182 := (by injection e182); replace p182 := eq_true p182; replace q182 := eq_true q182) | (go_at_call 63; (with_reducible refine (agonicref05_is.calls ((rd_T54 l0 x3_1).f1) (-900) 900 t183 _ A9.out).mono ?_); rintro e w' ⟨rfl, ⟨nd, rfl⟩⟩; (try first | exact ⟨rfl, _, World.drewN_drewN _ _ _⟩ | exact ⟨rfl, _, Eq.trans (World.drewN_drewN _ _ _) (congrArg (World.drewN _) (Nat.add_assoc _ _ _))⟩))); try go_wp2_with (first | (go_at_call 56; (with_reducible refine (agonicref05_heading.calls ((rd_T54 l0 x3_1).f0) true _ A7.out).mono ?_); rintro e w' ⟨rfl, ⟨nd, rfl⟩⟩; (try first | exact ⟨rfl, _, World.drewN_drewN _ _ _⟩ | exact ⟨rfl, _, Eq.trans (World.drewN_drewN _ _ _) (congrArg (World.drewN _) (Nat.add_assoc _ _ _))⟩); have p182 : 0 ≤ (x3_1 : Int) := zp; have q182 : x3_1 < (l0.length : Int) := zp; obtain ⟨ad182, e182, hx182_0, hx182_1⟩ := at_T54 HR0.out x3_1 p182 q182; obtain rfl : ad180 = ad182 := (by injection e182); replace p182 := eq_true p182; replace q182 := eq_true q182) | (go_at_call 63; (with_reducible refine (agonicref05_is.calls ((rd_T54 l0 x3_1).f1) (-900) 900 t183 _ A9.out).mono ?_); rintro e w' ⟨rfl, ⟨nd, rfl⟩⟩; (try first | exact ⟨rfl, _, World.drewN_drewN _ _ _⟩ | exact ⟨rfl, _, Eq.trans (World.drewN_drewN _ _ _) (congrArg (World.drewN _) (Nat.add_assoc _ _ _))⟩))))
         go_meet
         case rel => exact ⟨_, (!t183), (by first | rfl | (simp; done) | (simp [*]; done)), H', ⟨by have := HK1.out; first | omega | exact Nat.le_refl _⟩, by repeat (first | exact Drawn0.refl _ | apply Drawn0.step)⟩
        ·replace c8 := Bool.eq_false_iff.mpr c8
         subst c8
         rw [if_neg (show ¬ (false = true) by decide)] at H
         have H' := Aside0.mk H
         clear H
         have p180 : 0 ≤ (x3_1 : Int) := zp
         have q180 : x3_1 < (l0.length : Int) := zp
         obtain ⟨ad180, e180, hx180_0, hx180_1⟩ := at_T54 HR0.out x3_1 p180 q180
         cases e180
         replace p180 := eq_true p180
         replace q180 := eq_true q180
         go_wp2_with (first | (go_at_call 56; (with_reducible refine (agonicref05_heading.calls ((rd_T54 l0 x3_1).f0) false _ A7.out).mono ?_); rintro e w' ⟨rfl, ⟨nd, rfl⟩⟩; (try first | exact ⟨rfl, _, World.drewN_drewN _ _ _⟩ | exact ⟨rfl, _, Eq.trans (World.drewN_drewN _ _ _) (congrArg (World.drewN _) (Nat.add_assoc _ _ _))⟩)))
         repeat (go_quiet (first | (go_at_call 56; (with_reducible refine (agonicref05_heading.calls ((rd_T54 l0 x3_1).f0) false _ A7.out).mono ?_); rintro e w' ⟨rfl, ⟨nd, rfl⟩⟩; (try first | exact ⟨rfl, _, World.drewN_drewN _ _ _⟩ | exact ⟨rfl, _, Eq.trans (World.drewN_drewN _ _ _) (congrArg (World.drewN _) (Nat.add_assoc _ _ _))⟩))); try go_wp2_with (first | (go_at_call 56; (with_reducible refine (agonicref05_heading.calls ((rd_T54 l0 x3_1).f0) false _ A7.out).mono ?_); rintro e w' ⟨rfl, ⟨nd, rfl⟩⟩; (try first | exact ⟨rfl, _, World.drewN_drewN _ _ _⟩ | exact ⟨rfl, _, Eq.trans (World.drewN_drewN _ _ _) (congrArg (World.drewN _) (Nat.add_assoc _ _ _))⟩))))
         go_meet
         case rel => exact ⟨_, (true), (by first | rfl | (simp; done) | (simp [*]; done)), H', ⟨by have := HK1.out; first | omega | exact Nat.le_refl _⟩, by repeat (first | exact Drawn0.refl _ | apply Drawn0.step)⟩
       ·rw [if_neg c6] at H
        exact absurd H (by simp)
      case rest =>
       clear HC5
       try clear p1
       try clear q1
       try clear hx1
       try clear c2
       try clear c2b0
       try clear c2b1
       try clear c2b2
       try clear p2
       try clear c3
       try clear c3b0
       try clear c3b1
       try clear c4
       try clear c4b0
       try clear c6
       try clear c6b0
       try clear c8
       try clear hx180_0
       try clear hx180_1
       try clear hx182_0
       try clear hx182_1
       try clear p180
       try clear p182
       try clear p2
       try clear q180
       try clear q182
       obtain ⟨kq, x31_4, rfl, HA, HJ4, ⟨mc4, rfl⟩⟩ := hcut
       cases kq with
       | zero => exact absurd HA.out (by simp [agonicref05_Check.j1])
       | succ kj4 =>
        have H := HA.out
        clear HA
        simp only [agonicref05_Check.j1] at H
        by_cases c10 : x31_4 = true
        ·subst c10
         rw [if_pos rfl] at H
         obtain rfl := Option.some.inj H
         go_wp2
         repeat (go_quiet (fail); try go_wp2)
         go_ret
         exact ⟨by first | rfl | (simp; done) | (simp [*]; done), by repeat (first | exact Drawn0.refl _ | apply Drawn0.step)⟩
        ·replace c10 := Bool.eq_false_iff.mpr c10
         subst c10
         rw [if_neg (show ¬ (false = true) by decide)] at H
         have HC11 := Aside0.mk H
         clear H
         go_upto_region 10 with (fail)
         repeat (go_quiet (fail); go_upto_region 10 with (fail))
         go_cut [47] (fun v47 wc => ∃ (kq : Nat) (x47_10 : Bool), v47 = .bool x47_10 ∧ Aside0 (agonicref05_Check.j2 kq l0 x3_1 x47_10 = some r) ∧ Aside0 (kq ≤ kj4) ∧ Drawn0 w wc)
         case first =>
          have H := HC11.out
          clear HC11
          by_cases c12 : x3_1 > 0
          ·rw [if_pos c12] at H
           have c12b0 : decide (0 < x3_1) = true := decide_eq_true c12
           clear c12
           (first | rw [c12b0] | (simp only [i64_w, i32_w]; rw [c12b0]) | skip)
           by_cases c13 : 0 ≤ x3_1
           ·rw [if_pos c13] at H
            have c13b0 : decide (0 ≤ x3_1) = true := decide_eq_true c13
            clear c13
            by_cases c14 : x3_1 < (l0.length : Int)
            ·rw [if_pos c14] at H
             have c14b0 : decide (x3_1 < (l0.length : Int)) = true := decide_eq_true c14
             clear c14
             obtain ⟨ji15, hji15⟩ : ∃ j_ : Int, (wrap64 (x3_1 - 1)) = j_ := ⟨_, rfl⟩
             replace H : (if 0 ≤ (ji15) then (if (ji15) < (l0.length : Int) then (agonicref05_Check.j2 kj4 l0 x3_1 (((rd_T54 l0 x3_1).f0) == ((rd_T54 l0 (ji15)).f0))) else (none)) else (none)) = some r := by first | (rw [hji15] at H; exact H) | (simp only [hji15] at H ⊢; exact H)
             have hji15w : (IntKind.i64.wrap (x3_1 - 1)) = ji15 := (i64_w _).trans hji15
             by_cases c16 : 0 ≤ (ji15)
             ·rw [if_pos c16] at H
              have c16b0 : decide (0 ≤ (ji15)) = true := decide_eq_true c16
              clear c16
              by_cases c17 : (ji15) < (l0.length : Int)
              ·rw [if_pos c17] at H
               have c17b0 : decide ((ji15) < (l0.length : Int)) = true := decide_eq_true c17
               clear c17
               have H' := Aside0.mk H
               clear H
               have p184 : 0 ≤ (x3_1 : Int) := zp
               have q184 : x3_1 < (l0.length : Int) := zp
               obtain ⟨ad184, e184, hx184_0, hx184_1⟩ := at_T54 HR0.out x3_1 p184 q184
               cases e184
               replace p184 := eq_true p184
               replace q184 := eq_true q184
               have p185 : 0 ≤ ((ji15) : Int) := zp
               have q185 : (ji15) < (l0.length : Int) := zp
               obtain ⟨ad185, e185, hx185_0, hx185_1⟩ := at_T54 HR0.out (ji15) p185 q185
               obtain rfl : ad184 = ad185 := (by injection e185)
               replace p185 := eq_true p185
               replace q185 := eq_true q185
               go_wp2
               repeat (go_quiet (fail); try go_wp2)
               go_meet
               case rel => exact ⟨_, ((((rd_T54 l0 x3_1).f0) == ((rd_T54 l0 (ji15)).f0))), (by first | rfl | (simp; done) | (simp only [← hji15] <;> (first | rfl | simp)) | (simp [*]; done)), H', ⟨by have := HK1.out; have := HJ4.out; first | omega | exact Nat.le_refl _⟩, by repeat (first | exact Drawn0.refl _ | apply Drawn0.step)⟩
              ·rw [if_neg c17] at H
               exact absurd H (by simp)
             ·rw [if_neg c16] at H
              exact absurd H (by simp)
            ·rw [if_neg c14] at H
             exact absurd H (by simp)
           ·rw [if_neg c13] at H
            exact absurd H (by simp)
          ·rw [if_neg c12] at H
           have c12b0 : decide (0 < x3_1) = false := decide_eq_false c12
           clear c12
           (first | rw [c12b0] | (simp only [i64_w, i32_w]; rw [c12b0]) | skip)
           have H' := Aside0.mk H
           clear H
           go_wp2
           repeat (go_quiet (fail); try go_wp2)
           go_meet
           case rel => exact ⟨_, (false), (by first | rfl | (simp; done) | (simp [*]; done)), H', ⟨by have := HK1.out; have := HJ4.out; first | omega | exact Nat.le_refl _⟩, by repeat (first | exact Drawn0.refl _ | apply Drawn0.step)⟩
         case rest =>
          clear HC11
          try clear c1
          try clear p1
          try clear q1
          try clear hx1
          try clear c2
          try clear c2b0
          try clear c2b1
          try clear c2b2
          try clear p2
          try clear c3
          try clear c3b0
          try clear c3b1
          try clear c4
          try clear c4b0
          try clear c6
          try clear c6b0
          try clear p6
          try clear c8
          try clear c10
          try clear c12
          try clear c12b0
          try clear c13
          try clear c13b0
          try clear c14
          try clear c14b0
          try clear c16
          try clear c16b0
          try clear c17
          try clear c17b0
          try clear hx180_0
          try clear hx180_1
          try clear hx182_0
          try clear hx182_1
          try clear hx184_0
          try clear hx184_1
          try clear hx185_0
          try clear hx185_1
          try clear p1
          try clear p180
          try clear p182
          try clear p184
          try clear p185
          try clear p2
          try clear q1
          try clear q180
          try clear q182
          try clear q184
          try clear q185
          obtain ⟨kq, x47_10, rfl, HA, HJ10, ⟨mc10, rfl⟩⟩ := hcut
          cases kq with
          | zero => exact absurd HA.out (by simp [agonicref05_Check.j2])
          | succ kj10 =>
           have H := HA.out
           clear HA
           simp only [agonicref05_Check.j2] at H
           by_cases c18 : x47_10 = true
           ·subst c18
            rw [if_pos rfl] at H
            obtain rfl := Option.some.inj H
            go_wp2
            repeat (go_quiet (fail); try go_wp2)
            go_ret
            exact ⟨by first | rfl | (simp; done) | (simp [*]; done), by repeat (first | exact Drawn0.refl _ | apply Drawn0.step)⟩
           ·replace c18 := Bool.eq_false_iff.mpr c18
            subst c18
            rw [if_neg (show ¬ (false = true) by decide)] at H
            by_cases c19 : x3_1 > 0
            ·rw [if_pos c19] at H
             have c19b0 : decide (0 < x3_1) = true := decide_eq_true c19
             clear c19
             by_cases c20 : 0 ≤ x3_1
             ·rw [if_pos c20] at H
              have c20b0 : decide (0 ≤ x3_1) = true := decide_eq_true c20
              clear c20
              by_cases c21 : x3_1 < (l0.length : Int)
              ·rw [if_pos c21] at H
               have c21b0 : decide (x3_1 < (l0.length : Int)) = true := decide_eq_true c21
               clear c21
               obtain ⟨ji22, hji22⟩ : ∃ j_ : Int, (wrap64 (x3_1 - 1)) = j_ := ⟨_, rfl⟩
               replace H : (if 0 ≤ (ji22) then (if (ji22) < (l0.length : Int) then (if ((rd_T54 l0 x3_1).f0) < ((rd_T54 l0 (ji22)).f0) then (some 5) else (agonicref05_Check.l0 kj10 l0 (wrap64 (x3_1 + 1)))) else (none)) else (none)) = some r := by first | (rw [hji22] at H; exact H) | (simp only [hji22] at H ⊢; exact H)
               have hji22w : (IntKind.i64.wrap (x3_1 - 1)) = ji22 := (i64_w _).trans hji22
               by_cases c23 : 0 ≤ (ji22)
               ·rw [if_pos c23] at H
                have c23b0 : decide (0 ≤ (ji22)) = true := decide_eq_true c23
                clear c23
                by_cases c24 : (ji22) < (l0.length : Int)
                ·rw [if_pos c24] at H
                 have c24b0 : decide ((ji22) < (l0.length : Int)) = true := decide_eq_true c24
                 clear c24
                 by_cases c25 : ((rd_T54 l0 x3_1).f0) < ((rd_T54 l0 (ji22)).f0)
                 ·rw [if_pos c25] at H
                  have c25b0 : decide (((rd_T54 l0 x3_1).f0) < ((rd_T54 l0 (ji22)).f0)) = true := decide_eq_true c25
                  clear c25
                  obtain rfl := Option.some.inj H
                  have p186 : 0 ≤ (x3_1 : Int) := zp
                  have q186 : x3_1 < (l0.length : Int) := zp
                  obtain ⟨ad186, e186, hx186_0, hx186_1⟩ := at_T54 HR0.out x3_1 p186 q186
                  cases e186
                  replace p186 := eq_true p186
                  replace q186 := eq_true q186
                  have p187 : 0 ≤ ((ji22) : Int) := zp
                  have q187 : (ji22) < (l0.length : Int) := zp
                  obtain ⟨ad187, e187, hx187_0, hx187_1⟩ := at_T54 HR0.out (ji22) p187 q187
                  obtain rfl : ad186 = ad187 := (by injection e187)
                  replace p187 := eq_true p187
                  replace q187 := eq_true q187
                  go_wp2
                  repeat (go_quiet (fail); try go_wp2)
                  go_ret
                  exact ⟨by first | rfl | (simp; done) | (simp only [← hji22] <;> (first | rfl | simp)) | (simp [*]; done), by repeat (first | exact Drawn0.refl _ | apply Drawn0.step)⟩
                 ·rw [if_neg c25] at H
                  have c25b0 : decide (((rd_T54 l0 x3_1).f0) < ((rd_T54 l0 (ji22)).f0)) = false := decide_eq_false c25
                  clear c25
                  have H' := Aside0.mk H
                  clear H
                  have p186 : 0 ≤ (x3_1 : Int) := zp
                  have q186 : x3_1 < (l0.length : Int) := zp
                  obtain ⟨ad186, e186, hx186_0, hx186_1⟩ := at_T54 HR0.out x3_1 p186 q186
                  cases e186
                  replace p186 := eq_true p186
                  replace q186 := eq_true q186
                  have p187 : 0 ≤ ((ji22) : Int) := zp
                  have q187 : (ji22) < (l0.length : Int) := zp
                  obtain ⟨ad187, e187, hx187_0, hx187_1⟩ := at_T54 HR0.out (ji22) p187 q187
                  obtain rfl : ad186 = ad187 := (by injection e187)
                  replace p187 := eq_true p187
                  replace q187 := eq_true q187
                  go_wp2
                  repeat (go_quiet (fail); try go_wp2)
                  go_roundg kj10
                  case measure => have := HK1.out; have := HJ4.out; have := HJ10.out; omega
                  case rel => exact ⟨(wrap64 (x3_1 + 1)), (by first | rfl | (simp; done) | (simp [*]; done)), H', ⟨by have := HK1.out; have := HJ4.out; have := HJ10.out; omega⟩, by repeat (first | exact Drawn0.refl _ | apply Drawn0.step)⟩
                ·rw [if_neg c24] at H
                 exact absurd H (by simp)
               ·rw [if_neg c23] at H
                exact absurd H (by simp)
              ·rw [if_neg c21] at H
               exact absurd H (by simp)
             ·rw [if_neg c20] at H
              exact absurd H (by simp)
            ·rw [if_neg c19] at H
             have c19b0 : decide (0 < x3_1) = false := decide_eq_false c19
             clear c19
             have H' := Aside0.mk H
             clear H
             go_wp2
             repeat (go_quiet (fail); try go_wp2)
             go_roundg kj10
             case measure => have := HK1.out; have := HJ4.out; have := HJ10.out; omega
             case rel => exact ⟨(wrap64 (x3_1 + 1)), (by first | rfl | (simp; done) | (simp [*]; done)), H', ⟨by have := HK1.out; have := HJ4.out; have := HJ10.out; omega⟩, by repeat (first | exact Drawn0.refl _ | apply Drawn0.step)⟩
     ·rw [if_neg c4] at H
      have c4b0 : decide (x3_1 < (l0.length : Int)) = false := decide_eq_false c4
      clear c4
      obtain rfl := Option.some.inj H
      go_wp2
      repeat (go_quiet (fail); try go_wp2)
      go_ret
      exact ⟨by first | rfl | (simp; done) | (simp [*]; done), by repeat (first | exact Drawn0.refl _ | apply Drawn0.step)⟩
def agonicref05_whole.f (a0 : Int) : Option (Int × Int) := some (a0, 1)
set_option maxHeartbeats 8000000 in
set_option maxRecDepth 100000 in
theorem agonicref05_whole.calls (a0 : Int) (r1 : Int) (r2 : Int) (w : World) (h : agonicref05_whole.f a0 = some (r1, r2)) :
  Calls Try.prog 58 #[.int .i64 a0] w fun e w' => e = .returned (.agg #[.int .i64 r1, .int .i64 r2]) ∧ Below w.heap.size w w' := by
 have hu29 := Try.underlying29
 have HB := Aside0.mk (Below.refl w.heap.size w)
 have H : (some (a0, 1)) = some (r1, r2) := h
 clear h
 simp only [Option.some.injEq, Prod.mk.injEq] at H
 obtain ⟨rfl, rfl⟩ := H
 go_enter Try.func58, Try.ntmps58
 go_wp2_with (first | ((with_reducible refine gD 2 rfl ?_); refine zx 2 #[.int .i64 0, .int .i64 0] 29 ?_; intro gb188 hg w2 hbox hb; have BK188 := Aside0.mk (hbox); have GE188 := zG w hg; replace HB := zd hb; clear hb hbox hg; have hcz3_0 : w2.cell? ⟨gb188, 0, none⟩ = some (.int .i64 0) := zy BK188 0; have hcz3_1 : w2.cell? ⟨gb188, 1, none⟩ = some (.int .i64 0) := zy BK188 1; have hfz3_0 := blk_frozen BK188.out 0; have hfz3_1 := blk_frozen BK188.out 1))
 refine bodyPost_ret (results_cell_row rfl _ _ gb188 29 #[.int .i64 a0, .int .i64 1] (0, 0) _ rfl (by refine zm ?_; refine blk_put (cs := #[.int .i64 a0, .int .i64 0]) ?_ 1 _ rfl; refine zm ?_; refine blk_put (cs := #[.int .i64 0, .int .i64 0]) ?_ 0 _ rfl; refine zm ?_; exact BK188.out) Try.underlying29 rfl (by kernel_rfl)) rfl ?_
 exact ⟨ze, zh⟩
end Go.Proofs.Ytccjefoejjnccaa.C
