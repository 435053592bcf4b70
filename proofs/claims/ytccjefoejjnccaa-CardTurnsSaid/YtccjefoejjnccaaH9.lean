-- Written by a program of this session (wip/tools/myprint.py, over the kit's print).
import Derived.Test.YtccjefoejjnccaaH8
import Derived.Test.YtccjefoejjnccaaZ
namespace Go.Proofs.Ytccjefoejjnccaa.C
open Go.RowKit Go.Proofs.YtccjefoejjnccaaW.PrintWords Go.Proofs.YtccjefoejjnccaaW.PrintLast Go.Proofs.YtccjefoejjnccaaW.PrintMore
attribute [local go_sem] max2_int min2_int max_two min_two max_three min_three max_four min_four   -- for this text's walks alone
set_option linter.unusedVariables false
set_option linter.unusedSimpArgs false
def card_Known_folds.l0 : Nat → List (S92) → List (S55) → List (S55) → Int → Int → Option (Bool)
 | 0, _, _, _, _, _ => none
 | k + 1, x0, x3, x4, x13, x14 => if x14 < x13 then (if (x0.length : Int) = 0 then (none) else (if 0 ≤ (Int.tmod (wrap64 (x14 + 1)) (x0.length : Int)) then (if (Int.tmod (wrap64 (x14 + 1)) (x0.length : Int)) < (x3.length : Int) then (if 0 ≤ x14 then (if x14 < (x3.length : Int) then (if (Int.tmod (wrap64 (x14 + 1)) (x0.length : Int)) ≤ x14 then (if (Int.tmod (wrap64 (x14 + 1)) (x0.length : Int)) = x14 then (card_Known_folds.l0 k x0 x3 x4 x13 (wrap64 (x14 + 1))) else (if x14 < (x4.length : Int) then (if (wrap64 ((wrap64 ((wrap64 (((rd_T55 x3 (Int.tmod (wrap64 (x14 + 1)) (x0.length : Int))).f0) - ((rd_T55 x3 x14).f0))) + 3600)) + ((rd_T55 x3 (Int.tmod (wrap64 (x14 + 1)) (x0.length : Int))).f1))) ≤ ((rd_T55 x4 x14).f1) then (some true) else (card_Known_folds.l0 k x0 x3 x4 x13 (wrap64 (x14 + 1)))) else (none))) else (if (Int.tmod (wrap64 (x14 + 1)) (x0.length : Int)) = x14 then (card_Known_folds.l0 k x0 x3 x4 x13 (wrap64 (x14 + 1))) else (if x14 < (x4.length : Int) then (if (wrap64 ((wrap64 (((rd_T55 x3 (Int.tmod (wrap64 (x14 + 1)) (x0.length : Int))).f0) - ((rd_T55 x3 x14).f0))) + ((rd_T55 x3 (Int.tmod (wrap64 (x14 + 1)) (x0.length : Int))).f1))) ≤ ((rd_T55 x4 x14).f1) then (some true) else (card_Known_folds.l0 k x0 x3 x4 x13 (wrap64 (x14 + 1)))) else (none)))) else (none)) else (none)) else (none)) else (none))) else (some false)
def card_Known_folds.f (k : Nat) (l0 : List (S92)) : Option (Bool) := (card_Known_eachLo.f k l0).bind fun t101 => ((card_Known_eachHi.f k l0).bind fun t104 => (card_Known_folds.l0 k l0 t101 t104 (l0.length : Int) 0))
set_option maxHeartbeats 8000000 in
set_option maxRecDepth 100000 in
theorem card_Known_folds.calls (k : Nat) (A0 : Option Addr) (c0 : Nat) (l0 : List (S92)) (r : Bool) (w : World) (hr0 : Kd.C k92 w A0 l0.length l0) (hc0 : l0.length ≤ c0) (h : card_Known_folds.f k l0 = some r) :
  Calls Try.prog 77 #[.slice A0 l0.length c0] w fun e w' => e = .returned (.bool r) ∧ Below w.heap.size w w' := by
 have HR0 := Aside0.mk hr0
 have HC0 := Aside0.mk hc0
 clear hr0 hc0
 have HB := Aside0.mk (Below.refl w.heap.size w)
 have H : ((card_Known_eachLo.f k l0).bind fun t101 => ((card_Known_eachHi.f k l0).bind fun t104 => (card_Known_folds.l0 k l0 t101 t104 (l0.length : Int) 0))) = some r := h
 clear h
 replace H := zi H
 obtain ⟨t101, A20, H⟩ := H
 try dsimp only at H
 have A2 := Aside0.mk A20
 clear A20
 replace H := zi H
 obtain ⟨t104, A30, H⟩ := H
 try dsimp only at H
 have A3 := Aside0.mk A30
 clear A30
 have H' := Aside0.mk H
 clear H
 go_enter Try.func77, Try.ntmps77
 go_wp2_with (first | (go_at_call 79; (with_reducible refine (card_Known_eachLo.calls k _ _ l0 t101 _ ?side1 ?side2 A2.out).mono ?_); (case side1 => exact zc HR0.out); (case side2 => exact HC0.out); rintro e w4 ⟨v102, rfl, ho0, hb⟩; have HO103 := Aside0.mk (Kd.R_lower ho0 (below_size zh)); replace HB := zd hb; (try clear hb); (try clear ho0)) | (go_at_call 79; (with_reducible refine (card_Known_eachHi.calls k _ _ l0 t104 _ ?side1 ?side2 A3.out).mono ?_); (case side1 => exact zc (Kd.C_below HR0.out HB.out)); (case side2 => exact HC0.out); rintro e w5 ⟨v105, rfl, ho0, hb⟩; have HO106 := Aside0.mk (Kd.R_lower (Kd.R_new' ho0 (Kd.R_lt (zo HO103.out))) (below_size zh)); replace HO103 := Aside0.mk (Kd.R_elder' (zo HO103.out) (Kd.R_base ho0) hb); replace HB := zd hb; (try clear hb); (try clear ho0)))
 repeat (go_quiet (first | (go_at_call 79; (with_reducible refine (card_Known_eachLo.calls k _ _ l0 t101 _ ?side1 ?side2 A2.out).mono ?_); (case side1 => exact zc HR0.out); (case side2 => exact HC0.out); rintro e w4 ⟨v102, rfl, ho0, hb⟩; have HO103 := Aside0.mk (Kd.R_lower ho0 (below_size zh)); replace HB := zd hb; (try clear hb); (try clear ho0)) | (go_at_call 79; (with_reducible refine (card_Known_eachHi.calls k _ _ l0 t104 _ ?side1 ?side2 A3.out).mono ?_); (case side1 => exact zc (Kd.C_below HR0.out HB.out)); (case side2 => exact HC0.out); rintro e w5 ⟨v105, rfl, ho0, hb⟩; have HO106 := Aside0.mk (Kd.R_lower (Kd.R_new' ho0 (Kd.R_lt (zo HO103.out))) (below_size zh)); replace HO103 := Aside0.mk (Kd.R_elder' (zo HO103.out) (Kd.R_base ho0) hb); replace HB := zd hb; (try clear hb); (try clear ho0))); try go_wp2_with (first | (go_at_call 79; (with_reducible refine (card_Known_eachLo.calls k _ _ l0 t101 _ ?side1 ?side2 A2.out).mono ?_); (case side1 => exact zc HR0.out); (case side2 => exact HC0.out); rintro e w4 ⟨v102, rfl, ho0, hb⟩; have HO103 := Aside0.mk (Kd.R_lower ho0 (below_size zh)); replace HB := zd hb; (try clear hb); (try clear ho0)) | (go_at_call 79; (with_reducible refine (card_Known_eachHi.calls k _ _ l0 t104 _ ?side1 ?side2 A3.out).mono ?_); (case side1 => exact zc (Kd.C_below HR0.out HB.out)); (case side2 => exact HC0.out); rintro e w5 ⟨v105, rfl, ho0, hb⟩; have HO106 := Aside0.mk (Kd.R_lower (Kd.R_new' ho0 (Kd.R_lt (zo HO103.out))) (below_size zh)); replace HO103 := Aside0.mk (Kd.R_elder' (zo HO103.out) (Kd.R_base ho0) hb); replace HB := zd hb; (try clear hb); (try clear ho0))))
 go_loopg [14] k (fun kq v14 w' => ∃ (x14_1 : Int), v14 = .int .i64 x14_1 ∧ Aside0 (card_Known_folds.l0 kq l0 t101 t104 (l0.length : Int) x14_1 = some r) ∧ Aside0 (kq ≤ k) ∧ Aside0 (Kd.R k55 55 w' w.heap.size (fun k_ => some k_ ≠ (v105 : Value).ownBlock) v102 t101) ∧ Aside0 (Kd.R k55 55 w' w.heap.size (fun k_ => some k_ ≠ (v102 : Value).ownBlock) v105 t104) ∧ Aside0 (Below w.heap.size w w'))
 case atStart => exact ⟨(0), (by first | rfl | (simp; done) | (simp [*]; done)), H', ⟨Nat.le_refl _⟩, ⟨by refine zl ?_; exact Kd.R_mono HO103.out (fun _ hk => hk.2)⟩, ⟨by refine zl ?_; exact Kd.R_mono HO106.out (fun _ hk => hk.2)⟩, ⟨zh⟩⟩
 case round =>
  clear H'
  try clear p2
  obtain ⟨x14_1, rfl, HA, HK1, HO_3, HO_4, HB⟩ := hrel
  cases gk with
  | zero => exact absurd HA.out (by simp [card_Known_folds.l0])
  | succ k1 =>
   have H := HA.out
   clear HA
   simp only [card_Known_folds.l0] at H
   by_cases c6 : x14_1 < (l0.length : Int)
   ·rw [if_pos c6] at H
    have c6b0 : decide (x14_1 < (l0.length : Int)) = true := decide_eq_true c6
    clear c6
    by_cases c7 : (l0.length : Int) = 0
    ·rw [if_pos c7] at H
     exact absurd H (by simp)
    ·rw [if_neg c7] at H
     have c7b0 : ((l0.length : Int) == 0) = false := beq_eq_false_iff_ne.mpr c7
     have c7b1 : ((l0.length : Int) != 0) = true := bne_iff_ne.mpr c7
     have c7b2 : ¬ (l0 = []) := fun h_ => c7 (by rw [h_]; rfl)
     obtain ⟨ji8, hji8⟩ : ∃ j_ : Int, (Int.tmod (wrap64 (x14_1 + 1)) (l0.length : Int)) = j_ := ⟨_, rfl⟩
     replace H : (if 0 ≤ (ji8) then (if (ji8) < (t101.length : Int) then (if 0 ≤ x14_1 then (if x14_1 < (t101.length : Int) then (if (ji8) ≤ x14_1 then (if (ji8) = x14_1 then (card_Known_folds.l0 k1 l0 t101 t104 (l0.length : Int) (wrap64 (x14_1 + 1))) else (if x14_1 < (t104.length : Int) then (if (wrap64 ((wrap64 ((wrap64 (((rd_T55 t101 (ji8)).f0) - ((rd_T55 t101 x14_1).f0))) + 3600)) + ((rd_T55 t101 (ji8)).f1))) ≤ ((rd_T55 t104 x14_1).f1) then (some true) else (card_Known_folds.l0 k1 l0 t101 t104 (l0.length : Int) (wrap64 (x14_1 + 1)))) else (none))) else (if (ji8) = x14_1 then (card_Known_folds.l0 k1 l0 t101 t104 (l0.length : Int) (wrap64 (x14_1 + 1))) else (if x14_1 < (t104.length : Int) then (if (wrap64 ((wrap64 (((rd_T55 t101 (ji8)).f0) - ((rd_T55 t101 x14_1).f0))) + ((rd_T55 t101 (ji8)).f1))) ≤ ((rd_T55 t104 x14_1).f1) then (some true) else (card_Known_folds.l0 k1 l0 t101 t104 (l0.length : Int) (wrap64 (x14_1 + 1)))) else (none)))) else (none)) else (none)) else (none)) else (none)) = some r := by first | (rw [hji8] at H; exact H) | (simp only [hji8] at H ⊢; exact H)
     by_cases c9 : 0 ≤ (ji8)
     ·rw [if_pos c9] at H
      have c9b0 : decide (0 ≤ (ji8)) = true := decide_eq_true c9
      clear c9
      by_cases c10 : (ji8) < (t101.length : Int)
      ·rw [if_pos c10] at H
       have c10b0 : decide ((ji8) < (t101.length : Int)) = true := decide_eq_true c10
       clear c10
       by_cases c11 : 0 ≤ x14_1
       ·rw [if_pos c11] at H
        have c11b0 : decide (0 ≤ x14_1) = true := decide_eq_true c11
        clear c11
        by_cases c12 : x14_1 < (t101.length : Int)
        ·rw [if_pos c12] at H
         have c12b0 : decide (x14_1 < (t101.length : Int)) = true := decide_eq_true c12
         clear c12
         by_cases c13 : (ji8) ≤ x14_1
         ·rw [if_pos c13] at H
          have c13b0 : decide ((ji8) ≤ x14_1) = true := decide_eq_true c13
          clear c13
          by_cases c14 : (ji8) = x14_1
          ·rw [if_pos c14] at H
           have c14b0 : ((ji8) == x14_1) = true := beq_iff_eq.mpr c14
           have c14b1 : ((ji8) != x14_1) = false := bne_eq_false_iff_eq.mpr c14
           clear c14
           have H' := Aside0.mk H
           clear H
           obtain ⟨Ao15, co15, eo15⟩ := Kd.R_slice HO_3.out
           subst eo15
           have p107 : 0 ≤ ((ji8) : Int) := zp
           have q107 : (ji8) < (t101.length : Int) := zp
           obtain ⟨ad107, e107, hx107_0, hx107_1⟩ := at_T55 (Kd.R_reads' HO_3.out).2.2 (ji8) p107 q107
           cases e107
           replace p107 := eq_true p107
           replace q107 := eq_true q107
           have p108 : 0 ≤ (x14_1 : Int) := zp
           have q108 : x14_1 < (t101.length : Int) := zp
           obtain ⟨ad108, e108, hx108_0, hx108_1⟩ := at_T55 (Kd.R_reads' HO_3.out).2.2 x14_1 p108 q108
           obtain rfl : ad107 = ad108 := (by injection e108)
           replace p108 := eq_true p108
           replace q108 := eq_true q108
           go_wp2
           repeat (go_quiet (fail); try go_wp2)
           go_roundg k1
           case measure => have := HK1.out; omega
           case rel => exact ⟨(wrap64 (x14_1 + 1)), (by first | rfl | (simp; done) | (simp [*]; done)), H', ⟨by have := HK1.out; omega⟩, ⟨by refine zl ?_; exact HO_3.out⟩, ⟨by refine zl ?_; exact HO_4.out⟩, ⟨zh⟩⟩
          ·rw [if_neg c14] at H
           have c14b0 : ((ji8) == x14_1) = false := beq_eq_false_iff_ne.mpr c14
           have c14b1 : ((ji8) != x14_1) = true := bne_iff_ne.mpr c14
           by_cases c16 : x14_1 < (t104.length : Int)
           ·rw [if_pos c16] at H
            have c16b0 : decide (x14_1 < (t104.length : Int)) = true := decide_eq_true c16
            clear c16
            by_cases c17 : (wrap64 ((wrap64 ((wrap64 (((rd_T55 t101 (ji8)).f0) - ((rd_T55 t101 x14_1).f0))) + 3600)) + ((rd_T55 t101 (ji8)).f1))) ≤ ((rd_T55 t104 x14_1).f1)
            ·rw [if_pos c17] at H
             have c17b0 : decide ((wrap64 ((wrap64 ((wrap64 (((rd_T55 t101 (ji8)).f0) - ((rd_T55 t101 x14_1).f0))) + 3600)) + ((rd_T55 t101 (ji8)).f1))) ≤ ((rd_T55 t104 x14_1).f1)) = true := decide_eq_true c17
             clear c17
             obtain rfl := Option.some.inj H
             obtain ⟨Ao18, co18, eo18⟩ := Kd.R_slice HO_3.out
             subst eo18
             have p107 : 0 ≤ ((ji8) : Int) := zp
             have q107 : (ji8) < (t101.length : Int) := zp
             obtain ⟨ad107, e107, hx107_0, hx107_1⟩ := at_T55 (Kd.R_reads' HO_3.out).2.2 (ji8) p107 q107
             cases e107
             replace p107 := eq_true p107
             replace q107 := eq_true q107
             have p108 : 0 ≤ (x14_1 : Int) := zp
             have q108 : x14_1 < (t101.length : Int) := zp
             obtain ⟨ad108, e108, hx108_0, hx108_1⟩ := at_T55 (Kd.R_reads' HO_3.out).2.2 x14_1 p108 q108
             obtain rfl : ad107 = ad108 := (by injection e108)
             replace p108 := eq_true p108
             replace q108 := eq_true q108
             have p109 : 0 ≤ ((ji8) : Int) := zp
             have q109 : (ji8) < (t101.length : Int) := zp
             obtain ⟨ad109, e109, hx109_0, hx109_1⟩ := at_T55 (Kd.R_reads' HO_3.out).2.2 (ji8) p109 q109
             obtain rfl : ad107 = ad109 := (by injection e109)
             replace p109 := eq_true p109
             replace q109 := eq_true q109
             obtain ⟨Ao19, co19, eo19⟩ := Kd.R_slice HO_4.out
             subst eo19
             have p110 : 0 ≤ (x14_1 : Int) := zp
             have q110 : x14_1 < (t104.length : Int) := zp
             obtain ⟨ad110, e110, hx110_0, hx110_1⟩ := at_T55 (Kd.R_reads' HO_4.out).2.2 x14_1 p110 q110
             cases e110
             replace p110 := eq_true p110
             replace q110 := eq_true q110
             go_wp2
             repeat (go_quiet (fail); try go_wp2)
             go_ret
             exact ⟨by first | rfl | (simp [errW_none, errW_some] <;> rfl) | (simp only [← hji8]; first | rfl | (simp [errW_none, errW_some] <;> rfl)) | (simp [*, errW_none, errW_some] <;> rfl), zh⟩
            ·rw [if_neg c17] at H
             have c17b0 : decide ((wrap64 ((wrap64 ((wrap64 (((rd_T55 t101 (ji8)).f0) - ((rd_T55 t101 x14_1).f0))) + 3600)) + ((rd_T55 t101 (ji8)).f1))) ≤ ((rd_T55 t104 x14_1).f1)) = false := decide_eq_false c17
             clear c17
             have H' := Aside0.mk H
             clear H
             obtain ⟨Ao20, co20, eo20⟩ := Kd.R_slice HO_3.out
             subst eo20
             have p107 : 0 ≤ ((ji8) : Int) := zp
             have q107 : (ji8) < (t101.length : Int) := zp
             obtain ⟨ad107, e107, hx107_0, hx107_1⟩ := at_T55 (Kd.R_reads' HO_3.out).2.2 (ji8) p107 q107
             cases e107
             replace p107 := eq_true p107
             replace q107 := eq_true q107
             have p108 : 0 ≤ (x14_1 : Int) := zp
             have q108 : x14_1 < (t101.length : Int) := zp
             obtain ⟨ad108, e108, hx108_0, hx108_1⟩ := at_T55 (Kd.R_reads' HO_3.out).2.2 x14_1 p108 q108
             obtain rfl : ad107 = ad108 := (by injection e108)
             replace p108 := eq_true p108
             replace q108 := eq_true q108
             have p109 : 0 ≤ ((ji8) : Int) := zp
             have q109 : (ji8) < (t101.length : Int) := zp
             obtain ⟨ad109, e109, hx109_0, hx109_1⟩ := at_T55 (Kd.R_reads' HO_3.out).2.2 (ji8) p109 q109
             obtain rfl : ad107 = ad109 := (by injection e109)
             replace p109 := eq_true p109
             replace q109 := eq_true q109
             obtain ⟨Ao21, co21, eo21⟩ := Kd.R_slice HO_4.out
             subst eo21
             have p110 : 0 ≤ (x14_1 : Int) := zp
             have q110 : x14_1 < (t104.length : Int) := zp
             obtain ⟨ad110, e110, hx110_0, hx110_1⟩ := at_T55 (Kd.R_reads' HO_4.out).2.2 x14_1 p110 q110
             cases e110
             replace p110 := eq_true p110
             replace q110 := eq_true q110
             go_wp2
             repeat (go_quiet (fail); try go_wp2)
             go_roundg k1
             case measure => have := HK1.out; omega
             case rel => exact ⟨(wrap64 (x14_1 + 1)), (by first | rfl | (simp; done) | (simp [*]; done)), H', ⟨by have := HK1.out; omega⟩, ⟨by refine zl ?_; exact HO_3.out⟩, ⟨by refine zl ?_; exact HO_4.out⟩, ⟨zh⟩⟩
           ·rw [if_neg c16] at H
            exact absurd H (by simp)
         ·rw [if_neg c13] at H
          have c13b0 : decide ((ji8) ≤ x14_1) = false := decide_eq_false c13
          clear c13
          by_cases c22 : (ji8) = x14_1
          ·rw [if_pos c22] at H
           have c22b0 : ((ji8) == x14_1) = true := beq_iff_eq.mpr c22
           have c22b1 : ((ji8) != x14_1) = false := bne_eq_false_iff_eq.mpr c22
           clear c22
           have H' := Aside0.mk H
           clear H
           obtain ⟨Ao23, co23, eo23⟩ := Kd.R_slice HO_3.out
           subst eo23
           have p107 : 0 ≤ ((ji8) : Int) := zp
           have q107 : (ji8) < (t101.length : Int) := zp
           obtain ⟨ad107, e107, hx107_0, hx107_1⟩ := at_T55 (Kd.R_reads' HO_3.out).2.2 (ji8) p107 q107
           cases e107
           replace p107 := eq_true p107
           replace q107 := eq_true q107
           have p108 : 0 ≤ (x14_1 : Int) := zp
           have q108 : x14_1 < (t101.length : Int) := zp
           obtain ⟨ad108, e108, hx108_0, hx108_1⟩ := at_T55 (Kd.R_reads' HO_3.out).2.2 x14_1 p108 q108
           obtain rfl : ad107 = ad108 := (by injection e108)
           replace p108 := eq_true p108
           replace q108 := eq_true q108
           go_wp2
           repeat (go_quiet (fail); try go_wp2)
           go_roundg k1
           case measure => have := HK1.out; omega
           case rel => exact ⟨(wrap64 (x14_1 + 1)), (by first | rfl | (simp; done) | (simp [*]; done)), H', ⟨by have := HK1.out; omega⟩, ⟨by refine zl ?_; exact HO_3.out⟩, ⟨by refine zl ?_; exact HO_4.out⟩, ⟨zh⟩⟩
          ·rw [if_neg c22] at H
           have c22b0 : ((ji8) == x14_1) = false := beq_eq_false_iff_ne.mpr c22
           have c22b1 : ((ji8) != x14_1) = true := bne_iff_ne.mpr c22
           by_cases c24 : x14_1 < (t104.length : Int)
           ·rw [if_pos c24] at H
            have c24b0 : decide (x14_1 < (t104.length : Int)) = true := decide_eq_true c24
            clear c24
            by_cases c25 : (wrap64 ((wrap64 (((rd_T55 t101 (ji8)).f0) - ((rd_T55 t101 x14_1).f0))) + ((rd_T55 t101 (ji8)).f1))) ≤ ((rd_T55 t104 x14_1).f1)
            ·rw [if_pos c25] at H
             have c25b0 : decide ((wrap64 ((wrap64 (((rd_T55 t101 (ji8)).f0) - ((rd_T55 t101 x14_1).f0))) + ((rd_T55 t101 (ji8)).f1))) ≤ ((rd_T55 t104 x14_1).f1)) = true := decide_eq_true c25
             clear c25
             obtain rfl := Option.some.inj H
             obtain ⟨Ao26, co26, eo26⟩ := Kd.R_slice HO_3.out
             subst eo26
             have p107 : 0 ≤ ((ji8) : Int) := zp
             have q107 : (ji8) < (t101.length : Int) := zp
             obtain ⟨ad107, e107, hx107_0, hx107_1⟩ := at_T55 (Kd.R_reads' HO_3.out).2.2 (ji8) p107 q107
             cases e107
             replace p107 := eq_true p107
             replace q107 := eq_true q107
             have p108 : 0 ≤ (x14_1 : Int) := zp
             have q108 : x14_1 < (t101.length : Int) := zp
             obtain ⟨ad108, e108, hx108_0, hx108_1⟩ := at_T55 (Kd.R_reads' HO_3.out).2.2 x14_1 p108 q108
             obtain rfl : ad107 = ad108 := (by injection e108)
             replace p108 := eq_true p108
             replace q108 := eq_true q108
             have p111 : 0 ≤ ((ji8) : Int) := zp
             have q111 : (ji8) < (t101.length : Int) := zp
             obtain ⟨ad111, e111, hx111_0, hx111_1⟩ := at_T55 (Kd.R_reads' HO_3.out).2.2 (ji8) p111 q111
             obtain rfl : ad107 = ad111 := (by injection e111)
             replace p111 := eq_true p111
             replace q111 := eq_true q111
             obtain ⟨Ao27, co27, eo27⟩ := Kd.R_slice HO_4.out
             subst eo27
             have p112 : 0 ≤ (x14_1 : Int) := zp
             have q112 : x14_1 < (t104.length : Int) := zp
             obtain ⟨ad112, e112, hx112_0, hx112_1⟩ := at_T55 (Kd.R_reads' HO_4.out).2.2 x14_1 p112 q112
             cases e112
             replace p112 := eq_true p112
             replace q112 := eq_true q112
             go_wp2
             repeat (go_quiet (fail); try go_wp2)
             go_ret
             exact ⟨by first | rfl | (simp [errW_none, errW_some] <;> rfl) | (simp only [← hji8]; first | rfl | (simp [errW_none, errW_some] <;> rfl)) | (simp [*, errW_none, errW_some] <;> rfl), zh⟩
            ·rw [if_neg c25] at H
             have c25b0 : decide ((wrap64 ((wrap64 (((rd_T55 t101 (ji8)).f0) - ((rd_T55 t101 x14_1).f0))) + ((rd_T55 t101 (ji8)).f1))) ≤ ((rd_T55 t104 x14_1).f1)) = false := decide_eq_false c25
             clear c25
             have H' := Aside0.mk H
             clear H
             obtain ⟨Ao28, co28, eo28⟩ := Kd.R_slice HO_3.out
             subst eo28
             have p107 : 0 ≤ ((ji8) : Int) := zp
             have q107 : (ji8) < (t101.length : Int) := zp
             obtain ⟨ad107, e107, hx107_0, hx107_1⟩ := at_T55 (Kd.R_reads' HO_3.out).2.2 (ji8) p107 q107
             cases e107
             replace p107 := eq_true p107
             replace q107 := eq_true q107
             have p108 : 0 ≤ (x14_1 : Int) := zp
             have q108 : x14_1 < (t101.length : Int) := zp
             obtain ⟨ad108, e108, hx108_0, hx108_1⟩ := at_T55 (Kd.R_reads' HO_3.out).2.2 x14_1 p108 q108
             obtain rfl : ad107 = ad108 := (by injection e108)
             replace p108 := eq_true p108
             replace q108 := eq_true q108
             have p111 : 0 ≤ ((ji8) : Int) := zp
             have q111 : (ji8) < (t101.length : Int) := zp
             obtain ⟨ad111, e111, hx111_0, hx111_1⟩ := at_T55 (Kd.R_reads' HO_3.out).2.2 (ji8) p111 q111
             obtain rfl : ad107 = ad111 := (by injection e111)
             replace p111 := eq_true p111
             replace q111 := eq_true q111
             obtain ⟨Ao29, co29, eo29⟩ := Kd.R_slice HO_4.out
             subst eo29
             have p112 : 0 ≤ (x14_1 : Int) := zp
             have q112 : x14_1 < (t104.length : Int) := zp
             obtain ⟨ad112, e112, hx112_0, hx112_1⟩ := at_T55 (Kd.R_reads' HO_4.out).2.2 x14_1 p112 q112
             cases e112
             replace p112 := eq_true p112
             replace q112 := eq_true q112
             go_wp2
             repeat (go_quiet (fail); try go_wp2)
             go_roundg k1
             case measure => have := HK1.out; omega
             case rel => exact ⟨(wrap64 (x14_1 + 1)), (by first | rfl | (simp; done) | (simp [*]; done)), H', ⟨by have := HK1.out; omega⟩, ⟨by refine zl ?_; exact HO_3.out⟩, ⟨by refine zl ?_; exact HO_4.out⟩, ⟨zh⟩⟩
           ·rw [if_neg c24] at H
            exact absurd H (by simp)
        ·rw [if_neg c12] at H
         exact absurd H (by simp)
       ·rw [if_neg c11] at H
        exact absurd H (by simp)
      ·rw [if_neg c10] at H
       exact absurd H (by simp)
     ·rw [if_neg c9] at H
      exact absurd H (by simp)
   ·rw [if_neg c6] at H
    have c6b0 : decide (x14_1 < (l0.length : Int)) = false := decide_eq_false c6
    clear c6
    obtain rfl := Option.some.inj H
    go_wp2
    repeat (go_quiet (fail); try go_wp2)
    go_ret
    exact ⟨ze, zh⟩
end Go.Proofs.Ytccjefoejjnccaa.C
