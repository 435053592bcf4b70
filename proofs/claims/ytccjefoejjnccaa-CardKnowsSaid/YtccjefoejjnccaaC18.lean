-- Written by a program of this session (wip/tools/myprint.py, over the kit's print).
import Derived.Test.YtccjefoejjnccaaC0
import Derived.Test.YtccjefoejjnccaaC6
import Derived.Test.YtccjefoejjnccaaC13
import Derived.Test.YtccjefoejjnccaaC16
import Derived.Test.YtccjefoejjnccaaC17
import Derived.Test.YtccjefoejjnccaaZ
namespace Go.Proofs.Ytccjefoejjnccaa.C
open Go.RowKit Go.Proofs.YtccjefoejjnccaaW.PrintWords Go.Proofs.YtccjefoejjnccaaW.PrintLast Go.Proofs.YtccjefoejjnccaaW.PrintMore
attribute [local go_sem] max2_int min2_int max_two min_two max_three min_three max_four min_four   -- for this text's walks alone
set_option linter.unusedVariables false
set_option linter.unusedSimpArgs false
mutual
def agonicref05_Within.j0 : Nat → List (S124) → Int → Int → Bool → Option (Int × Int × Int × Int × Int)
 | 0, _, _, _, _ => none
 | k + 1, x0, x1, x7, x20 => if x20 = true then (agonicref05_Within.j1 k x0 x1 1) else (agonicref05_Within.j1 k x0 x1 x7)
def agonicref05_Within.j1 : Nat → List (S124) → Int → Int → Option (Int × Int × Int × Int × Int)
 | 0, _, _, _ => none
 | k + 1, x0, x1, x7 => if x7 = 0 then ((agonicref05_folds.f k x0).bind fun t384 => (agonicref05_Within.j2 k x0 x1 x7 t384)) else (agonicref05_Within.j2 k x0 x1 x7 false)
def agonicref05_Within.j2 : Nat → List (S124) → Int → Int → Bool → Option (Int × Int × Int × Int × Int)
 | 0, _, _, _, _ => none
 | k + 1, x0, x1, x7, x26 => if x26 = true then (agonicref05_Within.j3 k x0 x1 21) else (agonicref05_Within.j3 k x0 x1 x7)
def agonicref05_Within.j3 : Nat → List (S124) → Int → Int → Option (Int × Int × Int × Int × Int)
 | 0, _, _, _ => none
 | k + 1, x0, x1, x7 => if x7 = 0 then ((agonicref05_end.f k x0 false).bind fun t385 => ((agonicref05_Allowance.f k t385 x1).bind fun bt388 => ((agonicref05_end.f k x0 true).bind fun t392 => ((agonicref05_Allowance.f k t392 x1).bind fun bt395 => (some (bt388.1, bt388.2.1, bt395.1, bt395.2.1, 0)))))) else (some (0, 0, 0, 0, x7))
end
def agonicref05_Within.f (k : Nat) (l0 : List (S124)) (a1 : Int) : Option (Int × Int × Int × Int × Int) := (agonicref05_checked.f k l0).bind fun t382 => (if t382 = 0 then ((agonicref05_heading.f a1).bind fun t383 => (agonicref05_Within.j0 k l0 a1 t382 (!t383))) else (agonicref05_Within.j0 k l0 a1 t382 false))
set_option maxHeartbeats 8000000 in
set_option maxRecDepth 100000 in
theorem agonicref05_Within.calls (k : Nat) (A0 : Option Addr) (c0 : Nat) (l0 : List (S124)) (a1 : Int) (r1 : Int) (r2 : Int) (r3 : Int) (r4 : Int) (r5 : Int) (w : World) (hr0 : Kd.C k124 w A0 l0.length l0) (hc0 : l0.length ≤ c0) (h : agonicref05_Within.f k l0 a1 = some (r1, r2, r3, r4, r5)) :
  Calls Try.prog 34 #[.slice A0 l0.length c0, .int .i64 a1] w fun e w' => e = .returned (.tuple #[.agg #[.int .i64 r1, .int .i64 r2], .agg #[.int .i64 r3, .int .i64 r4], .int .i64 r5]) ∧ Below w.heap.size w w' := by
 have hu29 := Try.underlying29
 have HR0 := Aside0.mk hr0
 have HC0 := Aside0.mk hc0
 clear hr0 hc0
 have HB := Aside0.mk (Below.refl w.heap.size w)
 have H : ((agonicref05_checked.f k l0).bind fun t382 => (if t382 = 0 then ((agonicref05_heading.f a1).bind fun t383 => (agonicref05_Within.j0 k l0 a1 t382 (!t383))) else (agonicref05_Within.j0 k l0 a1 t382 false))) = some (r1, r2, r3, r4, r5) := h
 clear h
 replace H := zi H
 obtain ⟨t382, A30, H⟩ := H
 try dsimp only at H
 have A3 := Aside0.mk A30
 clear A30
 have HC4 := Aside0.mk H
 clear H
 go_enter Try.func34, Try.ntmps34
 go_upto_region 2 with (first | ((with_reducible refine gD 4 rfl ?_); refine zx 4 #[.int .i64 0, .int .i64 0] 29 ?_; intro gb380 hg w5 hbox hb; have BK380 := Aside0.mk (hbox); have GE380 := zG w hg; replace HB := zd hb; clear hb hbox hg) | ((with_reducible refine gD 5 rfl ?_); refine zx 5 #[.int .i64 0, .int .i64 0] 29 ?_; intro gb381 hg w6 hbox hb; have BK381 := Aside0.mk (hbox); have GE381 := zG w hg; replace HB := zd hb; have NB380_381 := zN BK380 hg; have NB381_380 := zM BK380 hg; replace BK380 := zk BK380 hb; clear hb hbox hg) | ((with_reducible refine gC 83 rfl ?_); refine gL 13 Try.func83 #[.slice A0 l0.length c0] ?_; (with_reducible refine (agonicref05_checked.calls k _ _ l0 t382 _ ?side1 ?side2 A3.out).mono ?_); (case side1 => exact zc (Kd.C_below HR0.out HB.out)); (case side2 => exact HC0.out); rintro e w7 ⟨rfl, hb⟩; refine ⟨_, rfl, ?_⟩; replace BK380 := zk BK380 hb; replace BK381 := zk BK381 hb; replace HB := zd hb; (try clear hb)))
 (try simp only [Act.put, List.setIfInBounds_toArray, List.set_cons_zero, List.set_cons_succ])
 go_cut [20] (fun v20 wc => ∃ (kq : Nat) (x20_3 : Bool), v20 = .bool x20_3 ∧ Aside0 (agonicref05_Within.j0 kq l0 a1 t382 x20_3 = some (r1, r2, r3, r4, r5)) ∧ Aside0 (kq ≤ k) ∧ Aside0 (wc.heap[gb380]? = some (.cells #[.int .i64 0, .int .i64 0] 29 (0, 0))) ∧ Aside0 (wc.heap[gb381]? = some (.cells #[.int .i64 0, .int .i64 0] 29 (0, 0))) ∧ Aside0 (Below w.heap.size w wc))
 case first =>
  have H := HC4.out
  clear HC4
  by_cases c8 : t382 = 0
  ·rw [if_pos c8] at H
   have c8b0 : (t382 == 0) = true := beq_iff_eq.mpr c8
   have c8b1 : (t382 != 0) = false := bne_eq_false_iff_eq.mpr c8
   clear c8
   (first | rw [c8b0] | (simp only [i64_w, i32_w]; rw [c8b0]) | skip)
   replace H := zi H
   obtain ⟨t383, A90, H⟩ := H
   try dsimp only at H
   have A9 := Aside0.mk A90
   clear A90
   have H' := Aside0.mk H
   clear H
   go_wp2_with (first | (go_at_call 56; (with_reducible refine (agonicref05_heading.calls a1 t383 _ A9.out).mono ?_); rintro e w' ⟨rfl, ⟨nd, rfl⟩⟩))
   go_meet
   case rel => exact ⟨_, (!t383), (by first | rfl | (simp; done) | (simp [*]; done)), H', ⟨by first | omega | exact Nat.le_refl _⟩, ⟨by refine zm ?_; exact BK380.out⟩, ⟨by refine zm ?_; exact BK381.out⟩, ⟨zh⟩⟩
  ·rw [if_neg c8] at H
   have c8b0 : (t382 == 0) = false := beq_eq_false_iff_ne.mpr c8
   have c8b1 : (t382 != 0) = true := bne_iff_ne.mpr c8
   (first | rw [c8b0] | (simp only [i64_w, i32_w]; rw [c8b0]) | skip)
   have H' := Aside0.mk H
   clear H
   go_wp2
   go_meet
   case rel => exact ⟨_, (false), (by first | rfl | (simp; done) | (simp [*]; done)), H', ⟨by first | omega | exact Nat.le_refl _⟩, ⟨by refine zm ?_; exact BK380.out⟩, ⟨by refine zm ?_; exact BK381.out⟩, ⟨zh⟩⟩
 case rest =>
  clear HC4
  try clear p2
  try clear c3
  try clear c8
  try clear c8b0
  try clear c8b1
  obtain ⟨kq, x20_3, rfl, HA, HJ3, BK380, BK381, HB⟩ := hcut
  cases kq with
  | zero => exact absurd HA.out (by simp [agonicref05_Within.j0])
  | succ kj3 =>
   have H := HA.out
   clear HA
   simp only [agonicref05_Within.j0] at H
   have HC10 := Aside0.mk H
   clear H
   go_upto_if 20 with (fail)
   go_cut [7] (fun v7 wc => ∃ (kq : Nat) (x7_9 : Int), v7 = .int .i64 x7_9 ∧ Aside0 (agonicref05_Within.j1 kq l0 a1 x7_9 = some (r1, r2, r3, r4, r5)) ∧ Aside0 (kq ≤ kj3) ∧ Aside0 (wc.heap[gb380]? = some (.cells #[.int .i64 0, .int .i64 0] 29 (0, 0))) ∧ Aside0 (wc.heap[gb381]? = some (.cells #[.int .i64 0, .int .i64 0] 29 (0, 0))) ∧ Aside0 (Below w.heap.size w wc))
   case first =>
    have H := HC10.out
    clear HC10
    by_cases c11 : x20_3 = true
    ·subst c11
     rw [if_pos rfl] at H
     have H' := Aside0.mk H
     clear H
     go_wp2
     go_meet
     case rel => exact ⟨_, (1), (by first | rfl | (simp; done) | (simp [*]; done)), H', ⟨by have := HJ3.out; first | omega | exact Nat.le_refl _⟩, ⟨by refine zm ?_; exact BK380.out⟩, ⟨by refine zm ?_; exact BK381.out⟩, ⟨zh⟩⟩
    ·replace c11 := Bool.eq_false_iff.mpr c11
     subst c11
     rw [if_neg (show ¬ (false = true) by decide)] at H
     have H' := Aside0.mk H
     clear H
     go_wp2
     go_meet
     case rel => exact ⟨_, (t382), (by first | rfl | (simp; done) | (simp [*]; done)), H', ⟨by have := HJ3.out; first | omega | exact Nat.le_refl _⟩, ⟨by refine zm ?_; exact BK380.out⟩, ⟨by refine zm ?_; exact BK381.out⟩, ⟨zh⟩⟩
   case rest =>
    clear HC10
    try clear c1
    try clear p2
    try clear c3
    try clear c8
    try clear c8b0
    try clear c8b1
    try clear c11
    try clear p2
    obtain ⟨kq, x7_9, rfl, HA, HJ9, BK380, BK381, HB⟩ := hcut
    cases kq with
    | zero => exact absurd HA.out (by simp [agonicref05_Within.j1])
    | succ kj9 =>
     have H := HA.out
     clear HA
     simp only [agonicref05_Within.j1] at H
     have HC12 := Aside0.mk H
     clear H
     go_upto_region 4 with (fail)
     go_cut [26] (fun v26 wc => ∃ (kq : Nat) (x26_11 : Bool), v26 = .bool x26_11 ∧ Aside0 (agonicref05_Within.j2 kq l0 a1 x7_9 x26_11 = some (r1, r2, r3, r4, r5)) ∧ Aside0 (kq ≤ kj9) ∧ Aside0 (wc.heap[gb380]? = some (.cells #[.int .i64 0, .int .i64 0] 29 (0, 0))) ∧ Aside0 (wc.heap[gb381]? = some (.cells #[.int .i64 0, .int .i64 0] 29 (0, 0))) ∧ Aside0 (Below w.heap.size w wc))
     case first =>
      have H := HC12.out
      clear HC12
      by_cases c13 : x7_9 = 0
      ·rw [if_pos c13] at H
       have c13b0 : (x7_9 == 0) = true := beq_iff_eq.mpr c13
       have c13b1 : (x7_9 != 0) = false := bne_eq_false_iff_eq.mpr c13
       clear c13
       (first | rw [c13b0] | (simp only [i64_w, i32_w]; rw [c13b0]) | skip)
       replace H := zi H
       obtain ⟨t384, A140, H⟩ := H
       try dsimp only at H
       have A14 := Aside0.mk A140
       clear A140
       have H' := Aside0.mk H
       clear H
       go_wp2_with (first | (go_at_call 84; (with_reducible refine (agonicref05_folds.calls kj9 _ _ l0 t384 _ ?side1 ?side2 A14.out).mono ?_); (case side1 => exact zc (Kd.C_below HR0.out HB.out)); (case side2 => exact HC0.out); rintro e w15 ⟨rfl, hb⟩; replace BK380 := zk BK380 hb; replace BK381 := zk BK381 hb; replace HB := zd hb; (try clear hb)))
       go_meet
       case rel => exact ⟨_, (t384), (by first | rfl | (simp; done) | (simp [*]; done)), H', ⟨by have := HJ3.out; have := HJ9.out; first | omega | exact Nat.le_refl _⟩, ⟨by refine zm ?_; exact BK380.out⟩, ⟨by refine zm ?_; exact BK381.out⟩, ⟨zh⟩⟩
      ·rw [if_neg c13] at H
       have c13b0 : (x7_9 == 0) = false := beq_eq_false_iff_ne.mpr c13
       have c13b1 : (x7_9 != 0) = true := bne_iff_ne.mpr c13
       (first | rw [c13b0] | (simp only [i64_w, i32_w]; rw [c13b0]) | skip)
       have H' := Aside0.mk H
       clear H
       go_wp2
       go_meet
       case rel => exact ⟨_, (false), (by first | rfl | (simp; done) | (simp [*]; done)), H', ⟨by have := HJ3.out; have := HJ9.out; first | omega | exact Nat.le_refl _⟩, ⟨by refine zm ?_; exact BK380.out⟩, ⟨by refine zm ?_; exact BK381.out⟩, ⟨zh⟩⟩
     case rest =>
      clear HC12
      try clear c1
      try clear p2
      try clear c3
      try clear c8
      try clear c8b0
      try clear c8b1
      try clear c11
      try clear c13
      try clear c13b0
      try clear c13b1
      try clear p2
      obtain ⟨kq, x26_11, rfl, HA, HJ11, BK380, BK381, HB⟩ := hcut
      cases kq with
      | zero => exact absurd HA.out (by simp [agonicref05_Within.j2])
      | succ kj11 =>
       have H := HA.out
       clear HA
       simp only [agonicref05_Within.j2] at H
       have HC16 := Aside0.mk H
       clear H
       go_upto_if 26 with (fail)
       go_cut [7] (fun v7 wc => ∃ (kq : Nat) (x7_15 : Int), v7 = .int .i64 x7_15 ∧ Aside0 (agonicref05_Within.j3 kq l0 a1 x7_15 = some (r1, r2, r3, r4, r5)) ∧ Aside0 (kq ≤ kj11) ∧ Aside0 (wc.heap[gb380]? = some (.cells #[.int .i64 0, .int .i64 0] 29 (0, 0))) ∧ Aside0 (wc.heap[gb381]? = some (.cells #[.int .i64 0, .int .i64 0] 29 (0, 0))) ∧ Aside0 (Below w.heap.size w wc))
       case first =>
        have H := HC16.out
        clear HC16
        by_cases c17 : x26_11 = true
        ·subst c17
         rw [if_pos rfl] at H
         have H' := Aside0.mk H
         clear H
         go_wp2
         go_meet
         case rel => exact ⟨_, (21), (by first | rfl | (simp; done) | (simp [*]; done)), H', ⟨by have := HJ3.out; have := HJ9.out; have := HJ11.out; first | omega | exact Nat.le_refl _⟩, ⟨by refine zm ?_; exact BK380.out⟩, ⟨by refine zm ?_; exact BK381.out⟩, ⟨zh⟩⟩
        ·replace c17 := Bool.eq_false_iff.mpr c17
         subst c17
         rw [if_neg (show ¬ (false = true) by decide)] at H
         have H' := Aside0.mk H
         clear H
         go_wp2
         go_meet
         case rel => exact ⟨_, (x7_9), (by first | rfl | (simp; done) | (simp [*]; done)), H', ⟨by have := HJ3.out; have := HJ9.out; have := HJ11.out; first | omega | exact Nat.le_refl _⟩, ⟨by refine zm ?_; exact BK380.out⟩, ⟨by refine zm ?_; exact BK381.out⟩, ⟨zh⟩⟩
       case rest =>
        clear HC16
        try clear c1
        try clear p2
        try clear c3
        try clear c8
        try clear c8b0
        try clear c8b1
        try clear c11
        try clear c13
        try clear c13b0
        try clear c13b1
        try clear c17
        try clear p2
        obtain ⟨kq, x7_15, rfl, HA, HJ15, BK380, BK381, HB⟩ := hcut
        cases kq with
        | zero => exact absurd HA.out (by simp [agonicref05_Within.j3])
        | succ kj15 =>
         have H := HA.out
         clear HA
         simp only [agonicref05_Within.j3] at H
         by_cases c18 : x7_15 = 0
         ·rw [if_pos c18] at H
          have c18b0 : (x7_15 == 0) = true := beq_iff_eq.mpr c18
          have c18b1 : (x7_15 != 0) = false := bne_eq_false_iff_eq.mpr c18
          clear c18
          replace H := zi H
          obtain ⟨t385, A190, H⟩ := H
          try dsimp only at H
          have A19 := Aside0.mk A190
          clear A190
          replace H := zi H
          obtain ⟨⟨t388, t389, t390⟩, A200, H⟩ := H
          try dsimp only at H
          have A20 := Aside0.mk A200
          clear A200
          replace H := zi H
          obtain ⟨t392, A210, H⟩ := H
          try dsimp only at H
          have A21 := Aside0.mk A210
          clear A210
          replace H := zi H
          obtain ⟨⟨t395, t396, t397⟩, A220, H⟩ := H
          try dsimp only at H
          have A22 := Aside0.mk A220
          clear A220
          simp only [Option.some.injEq, Prod.mk.injEq] at H
          obtain ⟨rfl, rfl, rfl, rfl, rfl⟩ := H
          try go_wp2_with (first | ((with_reducible refine gC 85 rfl ?_); refine gL 34 Try.func85 #[.slice A0 l0.length c0, .bool false] ?_; (with_reducible refine (agonicref05_end.calls kj15 _ _ l0 false t385 _ ?side1 ?side2 A19.out).mono ?_); (case side1 => exact zc (Kd.C_below HR0.out HB.out)); (case side2 => exact HC0.out); rintro e w23 ⟨v386, rfl, ho0, hb⟩; refine ⟨_, rfl, ?_⟩; have HO387 := Aside0.mk (Kd.R_lower ho0 (below_size zh)); replace BK380 := zk BK380 hb; replace BK381 := zk BK381 hb; replace HB := zd hb; (try clear hb); (try clear ho0); obtain ⟨Ao24, co24, eo24⟩ := Kd.R_slice HO387.out; subst eo24) | ((with_reducible refine gC 26 rfl ?_); refine gL 36 Try.func26 #[.slice Ao24 t385.length co24, .int .i64 a1] ?_; (with_reducible refine (agonicref05_Allowance.calls kj15 _ _ t385 a1 t388 t389 t390 _ ?side1 ?side2 A20.out).mono ?_); (case side1 => exact zc (Kd.R_reads' HO387.out).2.2); (case side2 => exact (Kd.R_reads' HO387.out).2.1); rintro e w25 ⟨rfl, hb⟩; refine ⟨_, rfl, ?_⟩; replace HO387 := zr HO387 hb; replace BK380 := zk BK380 hb; replace BK381 := zk BK381 hb; replace HB := zd hb; (try clear hb)) | ((with_reducible refine gD 8 rfl ?_); refine zx 8 #[.int .i64 0, .int .i64 0] 29 ?_; intro gb391 hg w26 hbox hb; replace HO387 := zr HO387 hb; have BK391 := Aside0.mk (hbox); have GE391 := zG w hg; replace HB := zd hb; have NB380_391 := zN BK380 hg; have NB391_380 := zM BK380 hg; replace BK380 := zk BK380 hb; have NB381_391 := zN BK381 hg; have NB391_381 := zM BK381 hg; replace BK381 := zk BK381 hb; clear hb hbox hg; have hnb27 := NB391_380.out; have hnc27 := NB380_391.out; have hnb28 := NB391_381.out; have hnc28 := NB381_391.out; have hcz29_0 : w26.cell? ⟨gb391, 0, none⟩ = some (.int .i64 0) := zy BK391 0; have hcz29_1 : w26.cell? ⟨gb391, 1, none⟩ = some (.int .i64 0) := zy BK391 1; have hfz29_0 := blk_frozen BK391.out 0; have hfz29_1 := blk_frozen BK391.out 1) | ((with_reducible refine gC 85 rfl ?_); refine gL 41 Try.func85 #[.slice A0 l0.length c0, .bool true] ?_; (with_reducible refine (agonicref05_end.calls kj15 _ _ l0 true t392 _ ?side1 ?side2 A21.out).mono ?_); (case side1 => exact Kd.C_below HR0.out zh); (case side2 => exact HC0.out); rintro e w30 ⟨v393, rfl, ho0, hb⟩; refine ⟨_, rfl, ?_⟩; have HO394 := Aside0.mk (Kd.R_lower (Kd.R_new' ho0 (Kd.R_lt (by refine zl ?_; exact (Kd.R_mono (Kd.R_far (p := ⟨gb391, 1, none⟩) (Kd.R_far (p := ⟨gb391, 0, none⟩) (Kd.R_types HO387.out BK391.out (by decide)) (fun _ hk => hk.2) (.int .i64 t388)) (fun _ hk => hk.2) (.int .i64 t389)) (fun _ h_ => h_.1))))) (below_size zh)); replace HO387 := Aside0.mk (Kd.R_elder' (by refine zl ?_; exact (Kd.R_mono (Kd.R_far (p := ⟨gb391, 1, none⟩) (Kd.R_far (p := ⟨gb391, 0, none⟩) (Kd.R_types HO387.out BK391.out (by decide)) (fun _ hk => hk.2) (.int .i64 t388)) (fun _ hk => hk.2) (.int .i64 t389)) (fun _ h_ => h_.1))) (Kd.R_base ho0) hb); replace BK380 := Aside0.mk (blk_below (g := gb380) (o := .cells #[.int .i64 0, .int .i64 0] 29 (0, 0)) (by refine zm ?_; refine blk_far ?_ NB380_391.out _; refine zm ?_; refine blk_far ?_ NB380_391.out _; refine zm ?_; exact BK380.out) hb); replace BK381 := Aside0.mk (blk_below (g := gb381) (o := .cells #[.int .i64 0, .int .i64 0] 29 (0, 0)) (by refine zm ?_; refine blk_far ?_ NB381_391.out _; refine zm ?_; refine blk_far ?_ NB381_391.out _; refine zm ?_; exact BK381.out) hb); replace BK391 := Aside0.mk (blk_below (g := gb391) (o := .cells #[.int .i64 t388, .int .i64 t389] 29 (0, 0)) (by refine zm ?_; refine blk_put (cs := #[.int .i64 t388, .int .i64 0]) ?_ 1 _ rfl; refine zm ?_; refine blk_put (cs := #[.int .i64 0, .int .i64 0]) ?_ 0 _ rfl; refine zm ?_; exact BK391.out) hb); replace HB := zd hb; (try clear hb); (try clear hk); (try clear ho0); obtain ⟨Ao31, co31, eo31⟩ := Kd.R_slice HO394.out; subst eo31) | ((with_reducible refine gC 26 rfl ?_); refine gL 43 Try.func26 #[.slice Ao31 t392.length co31, .int .i64 a1] ?_; (with_reducible refine (agonicref05_Allowance.calls kj15 _ _ t392 a1 t395 t396 t397 _ ?side1 ?side2 A22.out).mono ?_); (case side1 => exact zc (Kd.R_reads' HO394.out).2.2); (case side2 => exact (Kd.R_reads' HO394.out).2.1); rintro e w32 ⟨rfl, hb⟩; refine ⟨_, rfl, ?_⟩; replace HO387 := zr HO387 hb; replace HO394 := zr HO394 hb; replace BK380 := zk BK380 hb; replace BK381 := zk BK381 hb; replace BK391 := zk BK391 hb; replace HB := zd hb; (try clear hb)) | ((with_reducible refine gD 10 rfl ?_); refine zx 10 #[.int .i64 0, .int .i64 0] 29 ?_; intro gb398 hg w33 hbox hb; replace HO387 := zr HO387 hb; replace HO394 := zr HO394 hb; have BK398 := Aside0.mk (hbox); have GE398 := zG w hg; replace HB := zd hb; have NB380_398 := zN BK380 hg; have NB398_380 := zM BK380 hg; replace BK380 := zk BK380 hb; have NB381_398 := zN BK381 hg; have NB398_381 := zM BK381 hg; replace BK381 := zk BK381 hb; have NB391_398 := zN BK391 hg; have NB398_391 := zM BK391 hg; replace BK391 := zk BK391 hb; clear hb hbox hg; have hnb34 := NB398_380.out; have hnc34 := NB380_398.out; have hnb35 := NB398_381.out; have hnc35 := NB381_398.out; have hnb36 := NB398_391.out; have hnc36 := NB391_398.out; have hcz37_0 : w33.cell? ⟨gb398, 0, none⟩ = some (.int .i64 0) := zy BK398 0; have hcz37_1 : w33.cell? ⟨gb398, 1, none⟩ = some (.int .i64 0) := zy BK398 1; have hfz37_0 := blk_frozen BK398.out 0; have hfz37_1 := blk_frozen BK398.out 1))
          have n0_ : Aside0 (Kd.R k54 54 ((w33.setCell ⟨gb398, 0, none⟩ (.int .i64 t395)).setCell ⟨gb398, 1, none⟩ (.int .i64 t396)) w.heap.size (fun k_ => some k_ ≠ (.slice Ao31 t392.length co31 : Value).ownBlock) (.slice Ao24 t385.length co24) t385) := ⟨by refine zl ?_; exact Kd.R_mono (Kd.R_far (p := ⟨gb398, 1, none⟩) (Kd.R_far (p := ⟨gb398, 0, none⟩) (Kd.R_types HO387.out BK398.out (by decide)) (fun _ hk => hk.2) (.int .i64 t395)) (fun _ hk => hk.2) (.int .i64 t396)) (fun _ hk => hk.1.2)⟩
          have n1_ : Aside0 (Kd.R k54 54 ((w33.setCell ⟨gb398, 0, none⟩ (.int .i64 t395)).setCell ⟨gb398, 1, none⟩ (.int .i64 t396)) w.heap.size (fun k_ => some k_ ≠ (.slice Ao24 t385.length co24 : Value).ownBlock) (.slice Ao31 t392.length co31) t392) := ⟨by refine zl ?_; exact Kd.R_mono (Kd.R_far (p := ⟨gb398, 1, none⟩) (Kd.R_far (p := ⟨gb398, 0, none⟩) (Kd.R_types HO394.out BK398.out (by decide)) (fun _ hk => hk.2) (.int .i64 t395)) (fun _ hk => hk.2) (.int .i64 t396)) (fun _ hk => hk.1.2)⟩
          have n2_ : Aside0 (((w33.setCell ⟨gb398, 0, none⟩ (.int .i64 t395)).setCell ⟨gb398, 1, none⟩ (.int .i64 t396)).heap[gb380]? = some (.cells #[.int .i64 0, .int .i64 0] 29 (0, 0))) := ⟨by refine zm ?_; refine blk_far ?_ NB380_398.out _; refine zm ?_; refine blk_far ?_ NB380_398.out _; refine zm ?_; exact BK380.out⟩
          have n3_ : Aside0 (((w33.setCell ⟨gb398, 0, none⟩ (.int .i64 t395)).setCell ⟨gb398, 1, none⟩ (.int .i64 t396)).heap[gb381]? = some (.cells #[.int .i64 0, .int .i64 0] 29 (0, 0))) := ⟨by refine zm ?_; refine blk_far ?_ NB381_398.out _; refine zm ?_; refine blk_far ?_ NB381_398.out _; refine zm ?_; exact BK381.out⟩
          have n4_ : Aside0 (((w33.setCell ⟨gb398, 0, none⟩ (.int .i64 t395)).setCell ⟨gb398, 1, none⟩ (.int .i64 t396)).heap[gb391]? = some (.cells #[.int .i64 t388, .int .i64 t389] 29 (0, 0))) := ⟨by refine zm ?_; refine blk_far ?_ NB391_398.out _; refine zm ?_; refine blk_far ?_ NB391_398.out _; refine zm ?_; exact BK391.out⟩
          have n5_ : Aside0 (((w33.setCell ⟨gb398, 0, none⟩ (.int .i64 t395)).setCell ⟨gb398, 1, none⟩ (.int .i64 t396)).heap[gb398]? = some (.cells #[.int .i64 t395, .int .i64 t396] 29 (0, 0))) := ⟨by refine zm ?_; refine blk_put (cs := #[.int .i64 t395, .int .i64 0]) ?_ 1 _ rfl; refine zm ?_; refine blk_put (cs := #[.int .i64 0, .int .i64 0]) ?_ 0 _ rfl; refine zm ?_; exact BK398.out⟩
          have n6_ : Aside0 (Below w.heap.size w ((w33.setCell ⟨gb398, 0, none⟩ (.int .i64 t395)).setCell ⟨gb398, 1, none⟩ (.int .i64 t396))) := ⟨zh⟩
          (try clear HO387)
          (try clear HO394)
          (try clear BK380)
          (try clear BK381)
          (try clear BK391)
          (try clear BK398)
          (try clear HB)
          generalize ((w33.setCell ⟨gb398, 0, none⟩ (.int .i64 t395)).setCell ⟨gb398, 1, none⟩ (.int .i64 t396)) = w38 at n0_ n1_ n2_ n3_ n4_ n5_ n6_ ⊢
          have HO387 := n0_
          have HO394 := n1_
          have BK380 := n2_
          have BK381 := n3_
          have BK391 := n4_
          have BK398 := n5_
          have HB := n6_
          clear n0_ n1_ n2_ n3_ n4_ n5_ n6_
          replace HO387 := Aside0.mk (Kd.R_drew HO387.out)
          replace HO394 := Aside0.mk (Kd.R_drew HO394.out)
          replace BK380 := Aside0.mk (blk_drew BK380.out)
          replace BK381 := Aside0.mk (blk_drew BK381.out)
          replace BK391 := Aside0.mk (blk_drew BK391.out)
          replace BK398 := Aside0.mk (blk_drew BK398.out)
          replace HB := Aside0.mk (below_drew1 HB.out)
          refine start_ (n := 5) (S := fun w' => w'.cell? ⟨gb391, 0, none⟩ = some (.int .i64 t388) ∧ w'.cell? ⟨gb391, 1, none⟩ = some (.int .i64 t389) ∧ w'.cell? ⟨gb398, 0, none⟩ = some (.int .i64 t395) ∧ w'.cell? ⟨gb398, 1, none⟩ = some (.int .i64 t396)) (ds := []) #[false, false, false, false, false] (by kernel_rfl) rfl rfl ⟨zy BK391 0, zy BK391 1, zy BK398 0, zy BK398 1⟩ (fun hHeld => ?_)
          generalize w38.drew = w39 at HO387 HO394 BK380 BK381 BK391 BK398 HB hHeld ⊢
          refine take_ (i := 0) (N := some 46) (v := ?_) (a' := ?_) #[true, false, false, false, false] rfl rfl (by kernel_rfl) (fun _ _ _ h => h) (Or.inl ⟨by rfl, ?_⟩) hHeld ?_ ?_
          rotate_left
          ·rintro w' ⟨s0, s1, s2, s3⟩
           go_simp
           with_reducible rfl
          rotate_left
          ·simp only [Act.put, List.setIfInBounds_toArray, List.set_cons_zero, List.set_cons_succ, i64_w, i32_w]
           rfl
          refine take_ (i := 1) (N := some 47) (v := ?_) (a' := ?_) #[true, true, false, false, false] rfl rfl (by kernel_rfl) (fun _ _ _ h => h) (Or.inl ⟨by rfl, ?_⟩) hHeld ?_ ?_
          rotate_left
          ·rintro w' ⟨s0, s1, s2, s3⟩
           go_simp
           with_reducible rfl
          rotate_left
          ·simp only [Act.put, List.setIfInBounds_toArray, List.set_cons_zero, List.set_cons_succ, i64_w, i32_w]
           rfl
          refine one_ (i := 2) (N := none) #[true, true, true, false, false] rfl rfl (by kernel_rfl) (by decide) (fun K hK => ?_)
          have hs40 : w39.cell? ⟨gb380, 0, none⟩ = some (.int .i64 0) := zy BK380 0
          have hfs40 := blk_frozen BK380.out 0
          have hns40_1 := NB381_380.out
          have hns40_2 := NB391_380.out
          have hns40_3 := NB398_380.out
          have hms40_1 := NB380_381.out
          have hms40_2 := NB380_391.out
          have hms40_3 := NB380_398.out
          have hs41 : w39.cell? ⟨gb380, 1, none⟩ = some (.int .i64 0) := zy BK380 1
          have hfs41 := blk_frozen BK380.out 1
          have hns41_1 := NB381_380.out
          have hns41_2 := NB391_380.out
          have hns41_3 := NB398_380.out
          have hms41_1 := NB380_381.out
          have hms41_2 := NB380_391.out
          have hms41_3 := NB380_398.out
          refine skip_ (w1 := ?_) (by rfl) rfl ?_ ?_
          rotate_left
          ·go_simp
           rfl
          refine hK.out _ _ ⟨((cell_far (p := ⟨gb380, _, none⟩) NB391_380.out _).trans (((cell_far (p := ⟨gb380, _, none⟩) NB391_380.out _).trans (hHeld.1)))), ((cell_far (p := ⟨gb380, _, none⟩) NB391_380.out _).trans (((cell_far (p := ⟨gb380, _, none⟩) NB391_380.out _).trans (hHeld.2.1)))), ((cell_far (p := ⟨gb380, _, none⟩) NB398_380.out _).trans (((cell_far (p := ⟨gb380, _, none⟩) NB398_380.out _).trans (hHeld.2.2.1)))), ((cell_far (p := ⟨gb380, _, none⟩) NB398_380.out _).trans (((cell_far (p := ⟨gb380, _, none⟩) NB398_380.out _).trans (hHeld.2.2.2))))⟩ (fun hHeld => ?_)
          clear hK K
          refine one_ (i := 3) (N := none) #[true, true, true, true, false] rfl rfl (by kernel_rfl) (by decide) (fun K hK => ?_)
          have hs42 : w39.cell? ⟨gb381, 0, none⟩ = some (.int .i64 0) := zy BK381 0
          have hfs42 := blk_frozen BK381.out 0
          have hns42_0 := NB380_381.out
          have hns42_2 := NB391_381.out
          have hns42_3 := NB398_381.out
          have hms42_0 := NB381_380.out
          have hms42_2 := NB381_391.out
          have hms42_3 := NB381_398.out
          have hs43 : w39.cell? ⟨gb381, 1, none⟩ = some (.int .i64 0) := zy BK381 1
          have hfs43 := blk_frozen BK381.out 1
          have hns43_0 := NB380_381.out
          have hns43_2 := NB391_381.out
          have hns43_3 := NB398_381.out
          have hms43_0 := NB381_380.out
          have hms43_2 := NB381_391.out
          have hms43_3 := NB381_398.out
          refine skip_ (w1 := ?_) (by rfl) rfl ?_ ?_
          rotate_left
          ·go_simp
           rfl
          refine hK.out _ _ ⟨((cell_far (p := ⟨gb381, _, none⟩) NB391_381.out _).trans (((cell_far (p := ⟨gb381, _, none⟩) NB391_381.out _).trans (hHeld.1)))), ((cell_far (p := ⟨gb381, _, none⟩) NB391_381.out _).trans (((cell_far (p := ⟨gb381, _, none⟩) NB391_381.out _).trans (hHeld.2.1)))), ((cell_far (p := ⟨gb381, _, none⟩) NB398_381.out _).trans (((cell_far (p := ⟨gb381, _, none⟩) NB398_381.out _).trans (hHeld.2.2.1)))), ((cell_far (p := ⟨gb381, _, none⟩) NB398_381.out _).trans (((cell_far (p := ⟨gb381, _, none⟩) NB398_381.out _).trans (hHeld.2.2.2))))⟩ (fun hHeld => ?_)
          clear hK K
          refine pz (i := 4) (N := some 6) (zA 5 31) rfl rfl (by kernel_rfl) ?_
          refine done_ (by kernel_rfl) ?_
          try go_wp2
          refine bodyPost_ret (results_list (rs := [.cell 4 29, .cell 5 29, .tmp 6]) rfl (by simp) (.cell gb380 29 #[.int .i64 t388, .int .i64 t389] (0, 0) _ rfl (by refine zm ?_; refine blk_far ?_ NB380_381.out _; refine zm ?_; refine blk_far ?_ NB380_381.out _; refine zm ?_; refine blk_put (cs := #[.int .i64 t388, .int .i64 0]) ?_ 1 _ rfl; refine zm ?_; refine blk_put (cs := #[.int .i64 0, .int .i64 0]) ?_ 0 _ rfl; refine zm ?_; exact BK380.out) Try.underlying29 rfl (by kernel_rfl) (.cell gb381 29 #[.int .i64 t395, .int .i64 t396] (0, 0) _ rfl (by refine zm ?_; refine blk_put (cs := #[.int .i64 t395, .int .i64 0]) ?_ 1 _ rfl; refine zm ?_; refine blk_put (cs := #[.int .i64 0, .int .i64 0]) ?_ 0 _ rfl; refine zm ?_; refine blk_far ?_ NB381_380.out _; refine zm ?_; refine blk_far ?_ NB381_380.out _; refine zm ?_; exact BK381.out) Try.underlying29 rfl (by kernel_rfl) (.tmp .nil)))) rfl ?_
          exact ⟨ze, zh⟩
         ·rw [if_neg c18] at H
          have c18b0 : (x7_15 == 0) = false := beq_eq_false_iff_ne.mpr c18
          have c18b1 : (x7_15 != 0) = true := bne_iff_ne.mpr c18
          simp only [Option.some.injEq, Prod.mk.injEq] at H
          obtain ⟨rfl, rfl, rfl, rfl, rfl⟩ := H
          have hnb44 := NB380_381.out
          have hnc44 := NB381_380.out
          have hcz45_0 : wc.cell? ⟨gb380, 0, none⟩ = some (.int .i64 0) := zy BK380 0
          have hcz45_1 : wc.cell? ⟨gb380, 1, none⟩ = some (.int .i64 0) := zy BK380 1
          have hfz45_0 := blk_frozen BK380.out 0
          have hfz45_1 := blk_frozen BK380.out 1
          have hcz46_0 : wc.cell? ⟨gb381, 0, none⟩ = some (.int .i64 0) := zy BK381 0
          have hcz46_1 : wc.cell? ⟨gb381, 1, none⟩ = some (.int .i64 0) := zy BK381 1
          have hfz46_0 := blk_frozen BK381.out 0
          have hfz46_1 := blk_frozen BK381.out 1
          go_wp2
          refine bodyPost_ret (results_list (rs := [.cell 4 29, .cell 5 29, .tmp 6]) rfl (by simp) (.cell gb380 29 #[.int .i64 0, .int .i64 0] (0, 0) _ rfl (by refine zm ?_; refine blk_far ?_ NB380_381.out _; refine zm ?_; refine blk_far ?_ NB380_381.out _; refine zm ?_; refine blk_put (cs := #[.int .i64 0, .int .i64 0]) ?_ 1 _ rfl; refine zm ?_; refine blk_put (cs := #[.int .i64 0, .int .i64 0]) ?_ 0 _ rfl; refine zm ?_; exact BK380.out) Try.underlying29 rfl (by kernel_rfl) (.cell gb381 29 #[.int .i64 0, .int .i64 0] (0, 0) _ rfl (by refine zm ?_; refine blk_put (cs := #[.int .i64 0, .int .i64 0]) ?_ 1 _ rfl; refine zm ?_; refine blk_put (cs := #[.int .i64 0, .int .i64 0]) ?_ 0 _ rfl; refine zm ?_; refine blk_far ?_ NB381_380.out _; refine zm ?_; refine blk_far ?_ NB381_380.out _; refine zm ?_; exact BK381.out) Try.underlying29 rfl (by kernel_rfl) (.tmp .nil)))) rfl ?_
          exact ⟨ze, zh⟩
def agonicref05_Sure.f (k : Nat) (l0 : List (S124)) : Option (Int) := (agonicref05_checked.f k l0).bind fun t399 => (if t399 = 0 then ((agonicref05_folds.f k l0).bind fun t400 => (if t400 = true then (some 21) else (some t399))) else (some t399))
set_option maxHeartbeats 8000000 in
set_option maxRecDepth 100000 in
theorem agonicref05_Sure.calls (k : Nat) (A0 : Option Addr) (c0 : Nat) (l0 : List (S124)) (r : Int) (w : World) (hr0 : Kd.C k124 w A0 l0.length l0) (hc0 : l0.length ≤ c0) (h : agonicref05_Sure.f k l0 = some r) :
  Calls Try.prog 36 #[.slice A0 l0.length c0] w fun e w' => e = .returned (.int .i64 r) ∧ Below w.heap.size w w' := by
 have HR0 := Aside0.mk hr0
 have HC0 := Aside0.mk hc0
 clear hr0 hc0
 have HB := Aside0.mk (Below.refl w.heap.size w)
 have H : ((agonicref05_checked.f k l0).bind fun t399 => (if t399 = 0 then ((agonicref05_folds.f k l0).bind fun t400 => (if t400 = true then (some 21) else (some t399))) else (some t399))) = some r := h
 clear h
 replace H := zi H
 obtain ⟨t399, A20, H⟩ := H
 try dsimp only at H
 have A2 := Aside0.mk A20
 clear A20
 by_cases c3 : t399 = 0
 ·rw [if_pos c3] at H
  have c3b0 : (t399 == 0) = true := beq_iff_eq.mpr c3
  have c3b1 : (t399 != 0) = false := bne_eq_false_iff_eq.mpr c3
  clear c3
  replace H := zi H
  obtain ⟨t400, A40, H⟩ := H
  try dsimp only at H
  have A4 := Aside0.mk A40
  clear A40
  by_cases c5 : t400 = true
  ·subst c5
   rw [if_pos rfl] at H
   obtain rfl := Option.some.inj H
   go_enter Try.func36, Try.ntmps36
   go_wp2_with (first | ((with_reducible refine gC 83 rfl ?_); refine gL 5 Try.func83 #[.slice A0 l0.length c0] ?_; (with_reducible refine (agonicref05_checked.calls k _ _ l0 t399 _ ?side1 ?side2 A2.out).mono ?_); (case side1 => exact zc HR0.out); (case side2 => exact HC0.out); rintro e w6 ⟨rfl, hb⟩; refine ⟨_, rfl, ?_⟩; replace HB := zd hb; (try clear hb)) | (go_at_call 84; (with_reducible refine (agonicref05_folds.calls k _ _ l0 true _ ?side1 ?side2 A4.out).mono ?_); (case side1 => exact zc (Kd.C_below HR0.out HB.out)); (case side2 => exact HC0.out); rintro e w7 ⟨rfl, hb⟩; replace HB := zd hb; (try clear hb)))
   go_ret
   exact ⟨ze, zh⟩
  ·replace c5 := Bool.eq_false_iff.mpr c5
   subst c5
   rw [if_neg (show ¬ (false = true) by decide)] at H
   obtain rfl := Option.some.inj H
   go_enter Try.func36, Try.ntmps36
   go_wp2_with (first | ((with_reducible refine gC 83 rfl ?_); refine gL 5 Try.func83 #[.slice A0 l0.length c0] ?_; (with_reducible refine (agonicref05_checked.calls k _ _ l0 t399 _ ?side1 ?side2 A2.out).mono ?_); (case side1 => exact zc HR0.out); (case side2 => exact HC0.out); rintro e w8 ⟨rfl, hb⟩; refine ⟨_, rfl, ?_⟩; replace HB := zd hb; (try clear hb)) | (go_at_call 84; (with_reducible refine (agonicref05_folds.calls k _ _ l0 false _ ?side1 ?side2 A4.out).mono ?_); (case side1 => exact zc (Kd.C_below HR0.out HB.out)); (case side2 => exact HC0.out); rintro e w9 ⟨rfl, hb⟩; replace HB := zd hb; (try clear hb)))
   go_ret
   exact ⟨ze, zh⟩
 ·rw [if_neg c3] at H
  have c3b0 : (t399 == 0) = false := beq_eq_false_iff_ne.mpr c3
  have c3b1 : (t399 != 0) = true := bne_iff_ne.mpr c3
  obtain rfl := Option.some.inj H
  go_enter Try.func36, Try.ntmps36
  go_wp2_with (first | ((with_reducible refine gC 83 rfl ?_); refine gL 5 Try.func83 #[.slice A0 l0.length c0] ?_; (with_reducible refine (agonicref05_checked.calls k _ _ l0 t399 _ ?side1 ?side2 A2.out).mono ?_); (case side1 => exact zc HR0.out); (case side2 => exact HC0.out); rintro e w10 ⟨rfl, hb⟩; refine ⟨_, rfl, ?_⟩; replace HB := zd hb; (try clear hb)))
  go_ret
  exact ⟨ze, zh⟩
end Go.Proofs.Ytccjefoejjnccaa.C
