-- Written by a program of this session (wip/tools/myprint.py, over the kit's print).
import Derived.Test.YtccjefoejjnccaaC0
import Derived.Test.YtccjefoejjnccaaC6
import Derived.Test.YtccjefoejjnccaaC10
import Derived.Test.YtccjefoejjnccaaC11
import Derived.Test.YtccjefoejjnccaaC12
import Derived.Test.YtccjefoejjnccaaZ
namespace Go.Proofs.Ytccjefoejjnccaa.C
open Go.RowKit Go.Proofs.YtccjefoejjnccaaW.PrintWords Go.Proofs.YtccjefoejjnccaaW.PrintLast Go.Proofs.YtccjefoejjnccaaW.PrintMore
attribute [local go_sem] max2_int min2_int max_two min_two max_three min_three max_four min_four   -- for this text's walks alone
set_option linter.unusedVariables false
set_option linter.unusedSimpArgs false
mutual
def agonicref05_Allowance.j0 : Nat → List (S54) → Int → List Int → Int → Bool → Option (Int × Int × Int)
 | 0, _, _, _, _, _ => none
 | k + 1, x0, x1, x6, x7, x21 => if x21 = true then (agonicref05_Allowance.j1 k x0 x1 x6 1) else (agonicref05_Allowance.j1 k x0 x1 x6 x7)
def agonicref05_Allowance.j1 : Nat → List (S54) → Int → List Int → Int → Option (Int × Int × Int)
 | 0, _, _, _, _ => none
 | k + 1, x0, x1, x6, x7 => if x7 = 0 then (agonicref05_Allowance.j2 k x0 x1 x7 (decide ((x6.length : Int) > 0))) else (agonicref05_Allowance.j2 k x0 x1 x7 false)
def agonicref05_Allowance.j2 : Nat → List (S54) → Int → Int → Bool → Option (Int × Int × Int)
 | 0, _, _, _, _ => none
 | k + 1, x0, x1, x7, x28 => if x28 = true then (agonicref05_Allowance.j3 k x0 x1 21) else (agonicref05_Allowance.j3 k x0 x1 x7)
def agonicref05_Allowance.j3 : Nat → List (S54) → Int → Int → Option (Int × Int × Int)
 | 0, _, _, _ => none
 | k + 1, x0, x1, x7 => if x7 = 0 then ((agonicref05_Courses.f k x0 x1).bind fun bt291 => (if 0 < (bt291.1.length : Int) then ((agonicref05_deviation.f k x0 ((rd_T29 bt291.1 0).f0) ((rd_T29 bt291.1 0).f1)).bind fun bt296 => (some (bt296.1, bt296.2, 0))) else (none))) else (some (0, 0, x7))
end
def agonicref05_Allowance.f (k : Nat) (l0 : List (S54)) (a1 : Int) : Option (Int × Int × Int) := (agonicref05_Folds.f k l0).bind fun bt286 => (if bt286.2 = 0 then ((agonicref05_heading.f a1).bind fun t290 => (agonicref05_Allowance.j0 k l0 a1 bt286.1 bt286.2 (!t290))) else (agonicref05_Allowance.j0 k l0 a1 bt286.1 bt286.2 false))
set_option maxHeartbeats 8000000 in
set_option maxRecDepth 100000 in
theorem agonicref05_Allowance.calls (k : Nat) (A0 : Option Addr) (c0 : Nat) (l0 : List (S54)) (a1 : Int) (r1 : Int) (r2 : Int) (r3 : Int) (w : World) (hr0 : Kd.C k54 w A0 l0.length l0) (hc0 : l0.length ≤ c0) (h : agonicref05_Allowance.f k l0 a1 = some (r1, r2, r3)) :
  Calls Try.prog 26 #[.slice A0 l0.length c0, .int .i64 a1] w fun e w' => e = .returned (.tuple #[.agg #[.int .i64 r1, .int .i64 r2], .int .i64 r3]) ∧ Below w.heap.size w w' := by
 have hu29 := Try.underlying29
 have HR0 := Aside0.mk hr0
 have HC0 := Aside0.mk hc0
 clear hr0 hc0
 have HB := Aside0.mk (Below.refl w.heap.size w)
 have H : ((agonicref05_Folds.f k l0).bind fun bt286 => (if bt286.2 = 0 then ((agonicref05_heading.f a1).bind fun t290 => (agonicref05_Allowance.j0 k l0 a1 bt286.1 bt286.2 (!t290))) else (agonicref05_Allowance.j0 k l0 a1 bt286.1 bt286.2 false))) = some (r1, r2, r3) := h
 clear h
 replace H := zi H
 obtain ⟨⟨t286, t287⟩, A30, H⟩ := H
 try dsimp only at H
 have A3 := Aside0.mk A30
 clear A30
 have HC4 := Aside0.mk H
 clear H
 go_enter Try.func26, Try.ntmps26
 go_upto_region 2 with (first | ((with_reducible refine gD 4 rfl ?_); (try (refine gate_guard (by rfl) ?_; dsimp only)); refine zx 4 #[.int .i64 0, .int .i64 0] 29 ?_; intro gb285 hg w5 hbox hb; have BK285 := Aside0.mk (hbox); have GE285 := zG w hg; replace HB := zd hb; clear hb hbox hg) | ((with_reducible refine gC 19 rfl ?_); refine gL 12 Try.func19 #[.slice A0 l0.length c0] ?_; (with_reducible refine (agonicref05_Folds.calls k _ _ l0 t286 t287 _ ?side1 ?side2 A3.out).mono ?_); (case side1 => exact zc (Kd.C_below HR0.out HB.out)); (case side2 => exact HC0.out); rintro e w6 ⟨v288, rfl, ho0, hb⟩; refine ⟨_, rfl, ?_⟩; have HO289 := Aside0.mk (Kd.R_lower ho0 (below_size zh)); replace BK285 := zk BK285 hb; replace HB := zd hb; (try clear hb); (try clear ho0)))
 (try simp only [Act.put, List.setIfInBounds_toArray, List.set_cons_zero, List.set_cons_succ])
 go_cut [21] (fun v21 wc => ∃ (kq : Nat) (x21_3 : Bool), v21 = .bool x21_3 ∧ Aside0 (agonicref05_Allowance.j0 kq l0 a1 t286 t287 x21_3 = some (r1, r2, r3)) ∧ Aside0 (kq ≤ k) ∧ Aside0 (Kd.R (Kd.int .i64) 3 wc w.heap.size (fun _ => True) v288 t286) ∧ Aside0 (wc.heap[gb285]? = some (.cells #[.int .i64 0, .int .i64 0] 29 (0, 0))) ∧ Aside0 (Below w.heap.size w wc))
 case first =>
  have H := HC4.out
  clear HC4
  by_cases c7 : t287 = 0
  ·rw [if_pos c7] at H
   have c7b0 : (t287 == 0) = true := beq_iff_eq.mpr c7
   have c7b1 : (t287 != 0) = false := bne_eq_false_iff_eq.mpr c7
   clear c7
   (first | rw [c7b0] | (simp only [i64_w, i32_w]; rw [c7b0]) | skip)
   replace H := zi H
   obtain ⟨t290, A80, H⟩ := H
   try dsimp only at H
   have A8 := Aside0.mk A80
   clear A80
   have H' := Aside0.mk H
   clear H
   go_wp2_with (first | (go_at_call 56; (with_reducible refine (agonicref05_heading.calls a1 t290 _ A8.out).mono ?_); rintro e w' ⟨rfl, ⟨nd, rfl⟩⟩))
   go_meet
   case rel => exact ⟨_, (!t290), (by first | rfl | (simp; done) | (simp [*]; done)), H', ⟨by first | omega | exact Nat.le_refl _⟩, ⟨by refine zl ?_; exact HO289.out⟩, ⟨by refine zm ?_; exact BK285.out⟩, ⟨zh⟩⟩
  ·rw [if_neg c7] at H
   have c7b0 : (t287 == 0) = false := beq_eq_false_iff_ne.mpr c7
   have c7b1 : (t287 != 0) = true := bne_iff_ne.mpr c7
   (first | rw [c7b0] | (simp only [i64_w, i32_w]; rw [c7b0]) | skip)
   have H' := Aside0.mk H
   clear H
   go_wp2
   go_meet
   case rel => exact ⟨_, (false), (by first | rfl | (simp; done) | (simp [*]; done)), H', ⟨by first | omega | exact Nat.le_refl _⟩, ⟨by refine zl ?_; exact HO289.out⟩, ⟨by refine zm ?_; exact BK285.out⟩, ⟨zh⟩⟩
 case rest =>
  clear HC4
  try clear c1
  try clear c2
  try clear p2
  try clear c7
  try clear c7b0
  try clear c7b1
  obtain ⟨kq, x21_3, rfl, HA, HJ3, HO_6, BK285, HB⟩ := hcut
  cases kq with
  | zero => exact absurd HA.out (by simp [agonicref05_Allowance.j0])
  | succ kj3 =>
   have H := HA.out
   clear HA
   simp only [agonicref05_Allowance.j0] at H
   have HC9 := Aside0.mk H
   clear H
   go_upto_if 21 with (fail)
   go_cut [7] (fun v7 wc => ∃ (kq : Nat) (x7_8 : Int), v7 = .int .i64 x7_8 ∧ Aside0 (agonicref05_Allowance.j1 kq l0 a1 t286 x7_8 = some (r1, r2, r3)) ∧ Aside0 (kq ≤ kj3) ∧ Aside0 (Kd.R (Kd.int .i64) 3 wc w.heap.size (fun _ => True) v288 t286) ∧ Aside0 (wc.heap[gb285]? = some (.cells #[.int .i64 0, .int .i64 0] 29 (0, 0))) ∧ Aside0 (Below w.heap.size w wc))
   case first =>
    have H := HC9.out
    clear HC9
    by_cases c10 : x21_3 = true
    ·subst c10
     rw [if_pos rfl] at H
     have H' := Aside0.mk H
     clear H
     go_wp2
     go_meet
     case rel => exact ⟨_, (1), (by first | rfl | (simp; done) | (simp [*]; done)), H', ⟨by have := HJ3.out; first | omega | exact Nat.le_refl _⟩, ⟨by refine zl ?_; exact HO_6.out⟩, ⟨by refine zm ?_; exact BK285.out⟩, ⟨zh⟩⟩
    ·replace c10 := Bool.eq_false_iff.mpr c10
     subst c10
     rw [if_neg (show ¬ (false = true) by decide)] at H
     have H' := Aside0.mk H
     clear H
     go_wp2
     go_meet
     case rel => exact ⟨_, (t287), (by first | rfl | (simp; done) | (simp [*]; done)), H', ⟨by have := HJ3.out; first | omega | exact Nat.le_refl _⟩, ⟨by refine zl ?_; exact HO_6.out⟩, ⟨by refine zm ?_; exact BK285.out⟩, ⟨zh⟩⟩
   case rest =>
    clear HC9
    try clear c1
    try clear c2
    try clear p2
    try clear c7
    try clear c7b0
    try clear c7b1
    try clear c10
    try clear p2
    obtain ⟨kq, x7_8, rfl, HA, HJ8, HO_6, BK285, HB⟩ := hcut
    cases kq with
    | zero => exact absurd HA.out (by simp [agonicref05_Allowance.j1])
    | succ kj8 =>
     have H := HA.out
     clear HA
     simp only [agonicref05_Allowance.j1] at H
     have HC11 := Aside0.mk H
     clear H
     go_upto_region 4 with (fail)
     go_cut [28] (fun v28 wc => ∃ (kq : Nat) (x28_10 : Bool), v28 = .bool x28_10 ∧ Aside0 (agonicref05_Allowance.j2 kq l0 a1 x7_8 x28_10 = some (r1, r2, r3)) ∧ Aside0 (kq ≤ kj8) ∧ Aside0 (wc.heap[gb285]? = some (.cells #[.int .i64 0, .int .i64 0] 29 (0, 0))) ∧ Aside0 (Below w.heap.size w wc))
     case first =>
      have H := HC11.out
      clear HC11
      by_cases c12 : x7_8 = 0
      ·rw [if_pos c12] at H
       have c12b0 : (x7_8 == 0) = true := beq_iff_eq.mpr c12
       have c12b1 : (x7_8 != 0) = false := bne_eq_false_iff_eq.mpr c12
       clear c12
       (first | rw [c12b0] | (simp only [i64_w, i32_w]; rw [c12b0]) | skip)
       have H' := Aside0.mk H
       clear H
       obtain ⟨Ao13, co13, eo13⟩ := Kd.R_slice HO_6.out
       subst eo13
       go_wp2
       go_meet
       case rel => exact ⟨_, (decide ((t286.length : Int) > 0)), (by first | rfl | (simp; done) | (simp [*]; done)), H', ⟨by have := HJ3.out; have := HJ8.out; first | omega | exact Nat.le_refl _⟩, ⟨by refine zm ?_; exact BK285.out⟩, ⟨zh⟩⟩
      ·rw [if_neg c12] at H
       have c12b0 : (x7_8 == 0) = false := beq_eq_false_iff_ne.mpr c12
       have c12b1 : (x7_8 != 0) = true := bne_iff_ne.mpr c12
       (first | rw [c12b0] | (simp only [i64_w, i32_w]; rw [c12b0]) | skip)
       have H' := Aside0.mk H
       clear H
       go_wp2
       go_meet
       case rel => exact ⟨_, (false), (by first | rfl | (simp; done) | (simp [*]; done)), H', ⟨by have := HJ3.out; have := HJ8.out; first | omega | exact Nat.le_refl _⟩, ⟨by refine zm ?_; exact BK285.out⟩, ⟨zh⟩⟩
     case rest =>
      clear HC11
      try clear c1
      try clear c2
      try clear p2
      try clear c7
      try clear c7b0
      try clear c7b1
      try clear c10
      try clear c12
      try clear c12b0
      try clear c12b1
      try clear p2
      obtain ⟨kq, x28_10, rfl, HA, HJ10, BK285, HB⟩ := hcut
      cases kq with
      | zero => exact absurd HA.out (by simp [agonicref05_Allowance.j2])
      | succ kj10 =>
       have H := HA.out
       clear HA
       simp only [agonicref05_Allowance.j2] at H
       have HC14 := Aside0.mk H
       clear H
       go_upto_if 28 with (fail)
       go_cut [7] (fun v7 wc => ∃ (kq : Nat) (x7_13 : Int), v7 = .int .i64 x7_13 ∧ Aside0 (agonicref05_Allowance.j3 kq l0 a1 x7_13 = some (r1, r2, r3)) ∧ Aside0 (kq ≤ kj10) ∧ Aside0 (wc.heap[gb285]? = some (.cells #[.int .i64 0, .int .i64 0] 29 (0, 0))) ∧ Aside0 (Below w.heap.size w wc))
       case first =>
        have H := HC14.out
        clear HC14
        by_cases c15 : x28_10 = true
        ·subst c15
         rw [if_pos rfl] at H
         have H' := Aside0.mk H
         clear H
         go_wp2
         go_meet
         case rel => exact ⟨_, (21), (by first | rfl | (simp; done) | (simp [*]; done)), H', ⟨by have := HJ3.out; have := HJ8.out; have := HJ10.out; first | omega | exact Nat.le_refl _⟩, ⟨by refine zm ?_; exact BK285.out⟩, ⟨zh⟩⟩
        ·replace c15 := Bool.eq_false_iff.mpr c15
         subst c15
         rw [if_neg (show ¬ (false = true) by decide)] at H
         have H' := Aside0.mk H
         clear H
         go_wp2
         go_meet
         case rel => exact ⟨_, (x7_8), (by first | rfl | (simp; done) | (simp [*]; done)), H', ⟨by have := HJ3.out; have := HJ8.out; have := HJ10.out; first | omega | exact Nat.le_refl _⟩, ⟨by refine zm ?_; exact BK285.out⟩, ⟨zh⟩⟩
       case rest =>
        clear HC14
        try clear c1
        try clear c2
        try clear p2
        try clear c7
        try clear c7b0
        try clear c7b1
        try clear c10
        try clear c12
        try clear c12b0
        try clear c12b1
        try clear c15
        try clear p2
        obtain ⟨kq, x7_13, rfl, HA, HJ13, BK285, HB⟩ := hcut
        cases kq with
        | zero => exact absurd HA.out (by simp [agonicref05_Allowance.j3])
        | succ kj13 =>
         have H := HA.out
         clear HA
         simp only [agonicref05_Allowance.j3] at H
         by_cases c16 : x7_13 = 0
         ·rw [if_pos c16] at H
          have c16b0 : (x7_13 == 0) = true := beq_iff_eq.mpr c16
          have c16b1 : (x7_13 != 0) = false := bne_eq_false_iff_eq.mpr c16
          clear c16
          replace H := zi H
          obtain ⟨⟨t291, t292⟩, A170, H⟩ := H
          try dsimp only at H
          have A17 := Aside0.mk A170
          clear A170
          by_cases c18 : 0 < (t291.length : Int)
          ·rw [if_pos c18] at H
           have c18b0 : decide (0 < (t291.length : Int)) = true := decide_eq_true c18
           have c18b1 : decide (0 < t291.length) = true := decide_eq_true (by omega)
           clear c18
           replace H := zi H
           obtain ⟨⟨t296, t297⟩, A190, H⟩ := H
           try dsimp only at H
           have A19 := Aside0.mk A190
           clear A190
           simp only [Option.some.injEq, Prod.mk.injEq] at H
           obtain ⟨rfl, rfl, rfl⟩ := H
           go_wp2_with (first | ((with_reducible refine gC 24 rfl ?_); refine gL 36 Try.func24 #[.slice A0 l0.length c0, .int .i64 a1] ?_; (with_reducible refine (agonicref05_Courses.calls kj13 _ _ l0 a1 t291 t292 _ ?side1 ?side2 A17.out).mono ?_); (case side1 => exact zc (Kd.C_below HR0.out HB.out)); (case side2 => exact HC0.out); rintro e w20 ⟨v293, rfl, ho0, hb⟩; refine ⟨_, rfl, ?_⟩; have HO294 := Aside0.mk (Kd.R_lower (Kd.R_newB ho0 (g := gb285) (o := .cells #[.int .i64 0, .int .i64 0] 29 (0, 0)) (zb BK285)) (below_size zh)); replace BK285 := zk BK285 hb; replace HB := zd hb; (try clear hb); (try clear ho0); obtain ⟨Ao21, co21, eo21⟩ := Kd.R_slice HO294.out; subst eo21; have p295 : 0 ≤ (0 : Int) := (by omega); have q295 : 0 < (t291.length : Int) := zp; obtain ⟨ad295, e295, hx295_0, hx295_1⟩ := at_T29 (Kd.R_reads' HO294.out).2.2 0 p295 q295; cases e295; have qi295 : (0 < t291.length) = True := eq_true (by omega); (try rw [show ((0 : Int)).toNat = 0 from rfl] at hx295_0); (try rw [show 0 * 2 = 0 from rfl] at hx295_0); (try rw [Addr.add_zero'] at hx295_0); (try rw [show ((0 : Int)).toNat = 0 from rfl] at hx295_1); (try rw [show 0 * 2 = 0 from rfl] at hx295_1); (try rw [Addr.add_zero'] at hx295_1); replace p295 := eq_true p295; replace q295 := eq_true q295) | ((with_reducible refine gC 57 rfl ?_); refine gL 43 Try.func57 #[.slice A0 l0.length c0, .agg #[.int .i64 ((rd_T29 t291 0).f0), .int .i64 ((rd_T29 t291 0).f1)]] ?_; (with_reducible refine (agonicref05_deviation.calls kj13 _ _ l0 ((rd_T29 t291 0).f0) ((rd_T29 t291 0).f1) t296 t297 _ ?side1 ?side2 A19.out).mono ?_); (case side1 => exact zc (Kd.C_below HR0.out HB.out)); (case side2 => exact HC0.out); rintro e w22 ⟨rfl, hb⟩; refine ⟨_, rfl, ?_⟩; replace BK285 := zk BK285 hb; replace HB := zd hb; (try clear hb); have hcz23_0 : w22.cell? ⟨gb285, 0, none⟩ = some (.int .i64 0) := zy BK285 0; have hcz23_1 : w22.cell? ⟨gb285, 1, none⟩ = some (.int .i64 0) := zy BK285 1; have hfz23_0 := blk_frozen BK285.out 0; have hfz23_1 := blk_frozen BK285.out 1))
           refine bodyPost_ret (results_ct rfl _ _ gb285 29 #[.int .i64 t296, .int .i64 t297] (0, 0) _ rfl (by refine zm ?_; refine blk_put (cs := #[.int .i64 t296, .int .i64 0]) ?_ 1 _ rfl; refine zm ?_; refine blk_put (cs := #[.int .i64 0, .int .i64 0]) ?_ 0 _ rfl; refine zm ?_; exact BK285.out) Try.underlying29 rfl (by kernel_rfl)) rfl ?_
           exact ⟨ze, zh⟩
          ·rw [if_neg c18] at H
           exact absurd H (by simp)
         ·rw [if_neg c16] at H
          have c16b0 : (x7_13 == 0) = false := beq_eq_false_iff_ne.mpr c16
          have c16b1 : (x7_13 != 0) = true := bne_iff_ne.mpr c16
          simp only [Option.some.injEq, Prod.mk.injEq] at H
          obtain ⟨rfl, rfl, rfl⟩ := H
          have hcz24_0 : wc.cell? ⟨gb285, 0, none⟩ = some (.int .i64 0) := zy BK285 0
          have hcz24_1 : wc.cell? ⟨gb285, 1, none⟩ = some (.int .i64 0) := zy BK285 1
          have hfz24_0 := blk_frozen BK285.out 0
          have hfz24_1 := blk_frozen BK285.out 1
          go_wp2
          refine bodyPost_ret (results_ct rfl _ _ gb285 29 #[.int .i64 0, .int .i64 0] (0, 0) _ rfl (by refine zm ?_; refine blk_put (cs := #[.int .i64 0, .int .i64 0]) ?_ 1 _ rfl; refine zm ?_; refine blk_put (cs := #[.int .i64 0, .int .i64 0]) ?_ 0 _ rfl; refine zm ?_; exact BK285.out) Try.underlying29 rfl (by kernel_rfl)) rfl ?_
          exact ⟨ze, zh⟩
end Go.Proofs.Ytccjefoejjnccaa.C
