-- Written by a program of this session (wip/tools/myprint.py, over the kit's print).
import Derived.Test.YtccjefoejjnccaaC0
import Derived.Test.YtccjefoejjnccaaC6
import Derived.Test.YtccjefoejjnccaaC7
import Derived.Test.YtccjefoejjnccaaC8
import Derived.Test.YtccjefoejjnccaaC9
import Derived.Test.YtccjefoejjnccaaC11
import Derived.Test.YtccjefoejjnccaaZ
namespace Go.Proofs.Ytccjefoejjnccaa.C
open Go.RowKit Go.Proofs.YtccjefoejjnccaaW.PrintWords Go.Proofs.YtccjefoejjnccaaW.PrintLast Go.Proofs.YtccjefoejjnccaaW.PrintMore
attribute [local go_sem] max2_int min2_int max_two min_two max_three min_three max_four min_four   -- for this text's walks alone
set_option linter.unusedVariables false
set_option linter.unusedSimpArgs false
mutual
def agonicref05_Courses.j0 : Nat → List (S54) → Int → Int → Bool → Option ((List (S29)) × Int)
 | 0, _, _, _, _ => none
 | k + 1, x0, x1, x6, x24 => if x24 = true then (agonicref05_Courses.j1 k x0 x1 1) else (agonicref05_Courses.j1 k x0 x1 x6)
def agonicref05_Courses.j1 : Nat → List (S54) → Int → Int → Option ((List (S29)) × Int)
 | 0, _, _, _ => none
 | k + 1, x0, x1, x6 => if x6 = 0 then (agonicref05_Courses.l0 k x0 x1 ([] : List (S29)) 0) else (some (([] : List (S29)), x6))
def agonicref05_Courses.l0 : Nat → List (S54) → Int → List (S29) → Int → Option ((List (S29)) × Int)
 | 0, _, _, _, _ => none
 | k + 1, x0, x1, x7, x8 => if x8 < (x0.length : Int) then ((agonicref05_segment.f x0 x8).bind fun bt256 => (agonicref05_Courses.l1 k x0 x1 x7 x8 (-2) bt256.1 bt256.2.1 bt256.2.2.1 bt256.2.2.2)) else (some (x7, 0))
def agonicref05_Courses.l1 : Nat → List (S54) → Int → List (S29) → Int → Int → Int → Int → Int → Int → Option ((List (S29)) × Int)
 | 0, _, _, _, _, _, _, _, _, _ => none
 | k + 1, x0, x1, x7, x8, x11, x261000, x261001, x262000, x262001 => if x11 ≤ 2 then ((agonicref05_rise.f x0 x8).bind fun t262 => (if t262 = 0 then (if (wrap64 ((wrap64 ((wrap64 (x1 + (wrap64 (x11 * 3600)))) - x261000)) - x261001)) = 0 then (some (([] : List (S29)), 16)) else (agonicref05_Courses.l1 k x0 x1 x7 x8 (wrap64 (x11 + 1)) x261000 x261001 x262000 x262001)) else ((agonicref01_Reduced.f k (wrap64 ((wrap64 ((wrap64 ((wrap64 (x1 + (wrap64 (x11 * 3600)))) - x261000)) - x261001)) * (wrap64 (x262000 - x261000)))) t262).bind fun bt263 => (if bt263.1 < 0 then (agonicref05_Courses.j4 k x0 x1 x7 x8 x11 true x261000 x261001 x262000 x262001 bt263.1 bt263.2) else ((agonicref05_whole.f (wrap64 (x262000 - x261000))).bind fun bt266 => ((agonicref01_Less.f bt263.1 bt263.2 bt266.1 bt266.2).bind fun t268 => (agonicref05_Courses.j4 k x0 x1 x7 x8 x11 (!t268) x261000 x261001 x262000 x262001 bt263.1 bt263.2))))))) else (agonicref05_Courses.l0 k x0 x1 x7 (wrap64 (x8 + 1)))
def agonicref05_Courses.j4 : Nat → List (S54) → Int → List (S29) → Int → Int → Bool → Int → Int → Int → Int → Int → Int → Option ((List (S29)) × Int)
 | 0, _, _, _, _, _, _, _, _, _, _, _, _ => none
 | k + 1, x0, x1, x7, x8, x11, x83, x261000, x261001, x262000, x262001, x266000, x266001 => if x83 = true then (agonicref05_Courses.l1 k x0 x1 x7 x8 (wrap64 (x11 + 1)) x261000 x261001 x262000 x262001) else ((agonicref05_whole.f x261000).bind fun bt269 => ((agonicref05_Plus.f k bt269.1 bt269.2 x266000 x266001).bind fun bt271 => ((agonicref05_around.f k bt271.1 bt271.2).bind fun bt273 => (if x7.length < 8796093022208 then ((some (x7 ++ [(⟨bt273.1, bt273.2⟩ : S29)] : List (S29))).bind fun y275 => (agonicref05_Courses.l2 k x0 x1 y275 x8 x11 (wrap64 ((y275.length : Int) - 1)) x261000 x261001 x262000 x262001)) else (none)))))
def agonicref05_Courses.l2 : Nat → List (S54) → Int → List (S29) → Int → Int → Int → Int → Int → Int → Int → Option ((List (S29)) × Int)
 | 0, _, _, _, _, _, _, _, _, _, _ => none
 | k + 1, x0, x1, x7, x8, x11, x15, x261000, x261001, x262000, x262001 => if x15 > 0 then (if 0 ≤ x15 then (if x15 < (x7.length : Int) then (if 0 ≤ (wrap64 (x15 - 1)) then (if (wrap64 (x15 - 1)) < (x7.length : Int) then ((agonicref01_Less.f ((rd_T29 x7 x15).f0) ((rd_T29 x7 x15).f1) ((rd_T29 x7 (wrap64 (x15 - 1))).f0) ((rd_T29 x7 (wrap64 (x15 - 1))).f1)).bind fun t280 => (if t280 = true then (agonicref05_Courses.l2 k x0 x1 ((x7.set (x15 : Int).toNat (⟨(rd_T29 x7 (wrap64 (x15 - 1))).f0, (rd_T29 x7 (wrap64 (x15 - 1))).f1⟩ : S29)).set ((wrap64 (x15 - 1)) : Int).toNat (⟨(rd_T29 x7 x15).f0, (rd_T29 x7 x15).f1⟩ : S29)) x8 x11 (wrap64 (x15 - 1)) x261000 x261001 x262000 x262001) else (agonicref05_Courses.l1 k x0 x1 x7 x8 (wrap64 (x11 + 1)) x261000 x261001 x262000 x262001))) else (none)) else (none)) else (none)) else (none)) else (agonicref05_Courses.l1 k x0 x1 x7 x8 (wrap64 (x11 + 1)) x261000 x261001 x262000 x262001)
end
def agonicref05_Courses.f (k : Nat) (l0 : List (S54)) (a1 : Int) : Option ((List (S29)) × Int) := (agonicref05_Check.f k l0).bind fun t254 => (if t254 = 0 then ((agonicref05_heading.f a1).bind fun t255 => (agonicref05_Courses.j0 k l0 a1 t254 (!t255))) else (agonicref05_Courses.j0 k l0 a1 t254 false))
def agonicref05_Courses.T20 : Bool × List (List Nat × List Nat) := (true, [([], []), ([0], [0]), ([1], [1]), ([2], [2]), ([3], [3]), ([3], [3]), ([5, 3], [3, 5]), ([3], [3]), ([7, 3], [3, 7]), ([6, 8, 3], [3, 6, 8]), ([9, 3, 3], [3, 9]), ([4, 10, 10, 3], [3, 4, 10]), ([11, 3], [3, 11]), ([3, 12], [3, 12])])
def agonicref05_Courses.B20 : List Nat := [0, 1, 3, 7, 15, 15, 47, 15, 143, 495, 1007, 2047, 4095, 8191]
theorem agonicref05_Courses.tab20 : rtab .any (opsOf Try.f24 20) = agonicref05_Courses.T20 := by kernel_rfl
theorem agonicref05_Courses.bits20 : waitsOk agonicref05_Courses.T20.2 agonicref05_Courses.B20 = true := by kernel_rfl
def agonicref05_Courses.T21 : Bool × List (List Nat × List Nat) := (true, [([], []), ([], []), ([1], [1]), ([2], [2]), ([], []), ([3, 4, 3], [3, 4]), ([5, 5], [5]), ([6], [6]), ([0, 7, 6], [0, 7]), ([8, 8, 0, 1, 2, 3, 4, 5, 6, 7, 8], [0, 8])])
def agonicref05_Courses.B21 : List Nat := [0, 0, 2, 6, 0, 30, 62, 126, 255, 511]
theorem agonicref05_Courses.tab21 : rtab .any (opsOf Try.f24 21) = agonicref05_Courses.T21 := by kernel_rfl
theorem agonicref05_Courses.bits21 : waitsOk agonicref05_Courses.T21.2 agonicref05_Courses.B21 = true := by kernel_rfl
def agonicref05_Courses.T23 : Bool × List (List Nat × List Nat) := (true, [([], []), ([0], [0]), ([1], [1]), ([2], [2]), ([2], [2]), ([3, 4, 2], [2, 3, 4]), ([5, 2], [2, 5]), ([2], [2]), ([2], [2]), ([8, 2], [2, 8]), ([7, 9, 2], [2, 7, 9]), ([10, 2], [2, 10]), ([6, 11, 2, 2], [2, 6, 11]), ([2, 12], [2, 12])])
def agonicref05_Courses.B23 : List Nat := [0, 1, 3, 7, 7, 31, 63, 7, 7, 263, 903, 1927, 4095, 8191]
theorem agonicref05_Courses.tab23 : rtab .any (opsOf Try.f24 23) = agonicref05_Courses.T23 := by kernel_rfl
theorem agonicref05_Courses.bits23 : waitsOk agonicref05_Courses.T23.2 agonicref05_Courses.B23 = true := by kernel_rfl
def agonicref05_Courses.T25 : Bool × List (List Nat × List Nat) := (true, [([], []), ([], []), ([], []), ([], []), ([3], [3]), ([], []), ([], []), ([6], [6]), ([5, 7], [5, 7]), ([8], [8]), ([], []), ([], []), ([10, 11], [10, 11]), ([12], [12]), ([0, 1, 0, 1, 5, 6, 7, 8, 9, 13], [0, 1]), ([14, 9, 0, 1, 5, 6, 7, 8, 9, 13], [9, 14]), ([2, 4, 0, 1, 2, 3, 4, 5, 6, 7, 8, 9, 10, 11, 12, 13, 14, 15], [2, 4]), ([16, 13, 15, 0, 1, 2, 3, 4, 5, 6, 7, 8, 9, 10, 11, 12, 13, 14, 15], [13, 16])])
def agonicref05_Courses.B25 : List Nat := [0, 0, 0, 0, 8, 0, 0, 64, 224, 480, 0, 0, 3072, 7168, 16355, 32739, 65535, 131071]
theorem agonicref05_Courses.tab25 : rtab .any (opsOf Try.f24 25) = agonicref05_Courses.T25 := by kernel_rfl
theorem agonicref05_Courses.bits25 : waitsOk agonicref05_Courses.T25.2 agonicref05_Courses.B25 = true := by kernel_rfl
set_option maxHeartbeats 8000000 in
set_option maxRecDepth 100000 in
theorem agonicref05_Courses.calls (k : Nat) (A0 : Option Addr) (c0 : Nat) (l0 : List (S54)) (a1 : Int) (r1 : List (S29)) (r2 : Int) (w : World) (hr0 : Kd.C k54 w A0 l0.length l0) (hc0 : l0.length ≤ c0) (h : agonicref05_Courses.f k l0 a1 = some (r1, r2)) :
  Calls Try.prog 24 #[.slice A0 l0.length c0, .int .i64 a1] w fun e w' => ∃ v0_ : Value, e = .returned (.tuple #[v0_, .int .i64 r2]) ∧ Kd.R k29 29 w' w.heap.size (fun _ => True) v0_ r1 ∧ Below w.heap.size w w' := by
 have hu54 := Try.underlying54
 have hu29 := Try.underlying29
 have HR0 := Aside0.mk hr0
 have HC0 := Aside0.mk hc0
 clear hr0 hc0
 have HB := Aside0.mk (Below.refl w.heap.size w)
 have H : ((agonicref05_Check.f k l0).bind fun t254 => (if t254 = 0 then ((agonicref05_heading.f a1).bind fun t255 => (agonicref05_Courses.j0 k l0 a1 t254 (!t255))) else (agonicref05_Courses.j0 k l0 a1 t254 false))) = some (r1, r2) := h
 clear h
 replace H := zi H
 obtain ⟨t254, A30, H⟩ := H
 try dsimp only at H
 have A3 := Aside0.mk A30
 clear A30
 have HC4 := Aside0.mk H
 clear H
 go_enter Try.func24, Try.ntmps24
 go_upto_region 2 with (first | ((with_reducible refine gC 22 rfl ?_); refine gL 17 Try.func22 #[.slice A0 l0.length c0] ?_; (with_reducible refine (agonicref05_Check.calls k _ _ l0 t254 _ ?side1 ?side2 A3.out).mono ?_); (case side1 => exact zc HR0.out); (case side2 => exact HC0.out); rintro e w' ⟨rfl, ⟨nd, rfl⟩⟩; refine ⟨_, rfl, ?_⟩))
 (try simp only [Act.put, List.setIfInBounds_toArray, List.set_cons_zero, List.set_cons_succ])
 go_cut [24] (fun v24 wc => ∃ (kq : Nat) (x24_3 : Bool), v24 = .bool x24_3 ∧ Aside0 (agonicref05_Courses.j0 kq l0 a1 t254 x24_3 = some (r1, r2)) ∧ Aside0 (kq ≤ k) ∧ Aside0 (Below w.heap.size w wc))
 case first =>
  have H := HC4.out
  clear HC4
  by_cases c5 : t254 = 0
  ·rw [if_pos c5] at H
   have c5b0 : (t254 == 0) = true := beq_iff_eq.mpr c5
   have c5b1 : (t254 != 0) = false := bne_eq_false_iff_eq.mpr c5
   clear c5
   (first | rw [c5b0] | (simp only [i64_w, i32_w]; rw [c5b0]) | skip)
   replace H := zi H
   obtain ⟨t255, A60, H⟩ := H
   try dsimp only at H
   have A6 := Aside0.mk A60
   clear A60
   have H' := Aside0.mk H
   clear H
   go_wp2_with (first | (go_at_call 56; (with_reducible refine (agonicref05_heading.calls a1 t255 _ A6.out).mono ?_); rintro e w' ⟨rfl, ⟨nd, rfl⟩⟩))
   go_meet
   case rel => exact ⟨_, (!t255), (by first | rfl | (simp; done) | (simp [*]; done)), H', ⟨by first | omega | exact Nat.le_refl _⟩, ⟨zh⟩⟩
  ·rw [if_neg c5] at H
   have c5b0 : (t254 == 0) = false := beq_eq_false_iff_ne.mpr c5
   have c5b1 : (t254 != 0) = true := bne_iff_ne.mpr c5
   (first | rw [c5b0] | (simp only [i64_w, i32_w]; rw [c5b0]) | skip)
   have H' := Aside0.mk H
   clear H
   go_wp2
   go_meet
   case rel => exact ⟨_, (false), (by first | rfl | (simp; done) | (simp [*]; done)), H', ⟨by first | omega | exact Nat.le_refl _⟩, ⟨zh⟩⟩
 case rest =>
  clear HC4
  try clear c2
  try clear p2
  try clear c5
  try clear c5b0
  try clear c5b1
  obtain ⟨kq, x24_3, rfl, HA, HJ3, HB⟩ := hcut
  cases kq with
  | zero => exact absurd HA.out (by simp [agonicref05_Courses.j0])
  | succ kj3 =>
   have H := HA.out
   clear HA
   simp only [agonicref05_Courses.j0] at H
   have HC7 := Aside0.mk H
   clear H
   go_upto_if 24 with (fail)
   go_cut [6] (fun v6 wc => ∃ (kq : Nat) (x6_6 : Int), v6 = .int .i64 x6_6 ∧ Aside0 (agonicref05_Courses.j1 kq l0 a1 x6_6 = some (r1, r2)) ∧ Aside0 (kq ≤ kj3) ∧ Aside0 (Below w.heap.size w wc))
   case first =>
    have H := HC7.out
    clear HC7
    by_cases c8 : x24_3 = true
    ·subst c8
     rw [if_pos rfl] at H
     have H' := Aside0.mk H
     clear H
     go_wp2
     go_meet
     case rel => exact ⟨_, (1), (by first | rfl | (simp; done) | (simp [*]; done)), H', ⟨by have := HJ3.out; first | omega | exact Nat.le_refl _⟩, ⟨zh⟩⟩
    ·replace c8 := Bool.eq_false_iff.mpr c8
     subst c8
     rw [if_neg (show ¬ (false = true) by decide)] at H
     have H' := Aside0.mk H
     clear H
     go_wp2
     go_meet
     case rel => exact ⟨_, (t254), (by first | rfl | (simp; done) | (simp [*]; done)), H', ⟨by have := HJ3.out; first | omega | exact Nat.le_refl _⟩, ⟨zh⟩⟩
   case rest =>
    clear HC7
    try clear c2
    try clear p2
    try clear c5
    try clear c5b0
    try clear c5b1
    try clear c8
    try clear p2
    obtain ⟨kq, x6_6, rfl, HA, HJ6, HB⟩ := hcut
    cases kq with
    | zero => exact absurd HA.out (by simp [agonicref05_Courses.j1])
    | succ kj6 =>
     have H := HA.out
     clear HA
     simp only [agonicref05_Courses.j1] at H
     by_cases c9 : x6_6 = 0
     ·rw [if_pos c9] at H
      have c9b0 : (x6_6 == 0) = true := beq_iff_eq.mpr c9
      have c9b1 : (x6_6 != 0) = false := bne_eq_false_iff_eq.mpr c9
      clear c9
      have H' := Aside0.mk H
      clear H
      go_wp2
      go_loopg [7, 8] kj6 (fun kq v7 v8 w' => ∃ (x7_3 : List (S29)) (x8_3 : Int), v8 = .int .i64 x8_3 ∧ Aside0 (agonicref05_Courses.l0 kq l0 a1 x7_3 x8_3 = some (r1, r2)) ∧ Aside0 (kq ≤ kj6) ∧ Aside0 (Kd.R k29 29 w' w.heap.size (fun _ => True) v7 x7_3) ∧ Aside0 (Below w.heap.size w w'))
      case atStart => exact ⟨(([] : List (S29))), (0), (by first | rfl | (simp; done) | (simp [*]; done)), H', ⟨Nat.le_refl _⟩, ⟨by first | exact Kd.R_nil _ _ _ _ _ | exact Kd.N_nil _ _ _ _ _ | exact Kd.V_nil _ _ _ _ _ | exact Kd.Q_nil _ _ _ _ _ | exact Kd.S_nil _ _ _ _ _⟩, ⟨zh⟩⟩
      case round =>
       clear H'
       try clear c2
       try clear p2
       try clear c5
       try clear c5b0
       try clear c5b1
       try clear c8
       try clear c9
       try clear c9b0
       try clear c9b1
       try clear p2
       obtain ⟨x7_3, x8_3, rfl, HA, HK3, HO_7, HB⟩ := hrel
       cases gk with
       | zero => exact absurd HA.out (by simp [agonicref05_Courses.l0])
       | succ k3 =>
        have H := HA.out
        clear HA
        simp only [agonicref05_Courses.l0] at H
        by_cases c10 : x8_3 < (l0.length : Int)
        ·rw [if_pos c10] at H
         have c10b0 : decide (x8_3 < (l0.length : Int)) = true := decide_eq_true c10
         clear c10
         replace H := zi H
         obtain ⟨⟨t256, t257, t258, t259⟩, A110, H⟩ := H
         try dsimp only at H
         have A11 := Aside0.mk A110
         clear A110
         have H' := Aside0.mk H
         clear H
         go_wp2_with (first | ((with_reducible refine gC 65 rfl ?_); refine gL 37 Try.func65 #[.slice A0 l0.length c0, .int .i64 x8_3] ?_; (with_reducible refine (agonicref05_segment.calls _ _ l0 x8_3 t256 t257 t258 t259 _ ?side1 ?side2 A11.out).mono ?_); (case side1 => exact zc (Kd.C_below HR0.out HB.out)); (case side2 => exact HC0.out); rintro e w12 ⟨rfl, hb⟩; refine ⟨_, rfl, ?_⟩; replace HO_7 := zr HO_7 hb; replace HB := zd hb; (try clear hb)) | ((with_reducible refine gD 9 rfl ?_); refine zx 9 #[.int .i64 0, .int .i64 0] 54 ?_; intro gb260 hg w13 hbox hb; replace HO_7 := zr HO_7 hb; have BK260 := Aside0.mk (hbox); have GE260 := zG w hg; replace HB := zd hb; clear hb hbox hg) | ((with_reducible refine gD 10 rfl ?_); refine zx 10 #[.int .i64 0, .int .i64 0] 54 ?_; intro gb261 hg w14 hbox hb; replace HO_7 := zr HO_7 hb; have BK261 := Aside0.mk (hbox); have GE261 := zG w hg; replace HB := zd hb; have NB260_261 := zN BK260 hg; have NB261_260 := zM BK260 hg; replace BK260 := zk BK260 hb; clear hb hbox hg; have hnb15 := NB260_261.out; have hnc15 := NB261_260.out; have hcz16_0 : w14.cell? ⟨gb260, 0, none⟩ = some (.int .i64 0) := zy BK260 0; have hcz16_1 : w14.cell? ⟨gb260, 1, none⟩ = some (.int .i64 0) := zy BK260 1; have hfz16_0 := blk_frozen BK260.out 0; have hfz16_1 := blk_frozen BK260.out 1; have hcz17_0 : w14.cell? ⟨gb261, 0, none⟩ = some (.int .i64 0) := zy BK261 0; have hcz17_1 : w14.cell? ⟨gb261, 1, none⟩ = some (.int .i64 0) := zy BK261 1; have hfz17_0 := blk_frozen BK261.out 0; have hfz17_1 := blk_frozen BK261.out 1))
         go_loopg [7, 11] k3 (fun kq v7 v11 w' => ∃ (x7_4 : List (S29)) (x11_4 : Int), v11 = .int .i64 x11_4 ∧ Aside0 (agonicref05_Courses.l1 kq l0 a1 x7_4 x8_3 x11_4 t256 t257 t258 t259 = some (r1, r2)) ∧ Aside0 (kq ≤ k3) ∧ Aside0 (Kd.R k29 29 w' w.heap.size (fun _ => True) v7 x7_4) ∧ Aside0 (w'.heap[gb260]? = some (.cells #[.int .i64 t256, .int .i64 t257] 54 (0, 0))) ∧ Aside0 (w'.heap[gb261]? = some (.cells #[.int .i64 t258, .int .i64 t259] 54 (0, 0))) ∧ Aside0 (Below w.heap.size w w'))
         case atStart => exact ⟨(x7_3), ((-2)), (by first | rfl | (simp; done) | (simp [*]; done)), H', ⟨Nat.le_refl _⟩, ⟨by refine zl ?_; exact Kd.R_mono (Kd.R_far (p := ⟨gb261, 1, none⟩) (Kd.R_far (p := ⟨gb261, 0, none⟩) (Kd.R_far (p := ⟨gb260, 1, none⟩) (Kd.R_far (p := ⟨gb260, 0, none⟩) (Kd.R_types (Kd.R_types HO_7.out BK260.out (by decide)) BK261.out (by decide)) (fun _ hk => hk.1.2) (.int .i64 t256)) (fun _ hk => hk.1.2) (.int .i64 t257)) (fun _ hk => hk.2) (.int .i64 t258)) (fun _ hk => hk.2) (.int .i64 t259)) (fun _ hk => trivial)⟩, ⟨by refine zm ?_; refine blk_far ?_ NB260_261.out _; refine zm ?_; refine blk_far ?_ NB260_261.out _; refine zm ?_; refine blk_put (cs := #[.int .i64 t256, .int .i64 0]) ?_ 1 _ rfl; refine zm ?_; refine blk_put (cs := #[.int .i64 0, .int .i64 0]) ?_ 0 _ rfl; refine zm ?_; exact BK260.out⟩, ⟨by refine zm ?_; refine blk_put (cs := #[.int .i64 t258, .int .i64 0]) ?_ 1 _ rfl; refine zm ?_; refine blk_put (cs := #[.int .i64 0, .int .i64 0]) ?_ 0 _ rfl; refine zm ?_; refine blk_far ?_ NB261_260.out _; refine zm ?_; refine blk_far ?_ NB261_260.out _; refine zm ?_; exact BK261.out⟩, ⟨zh⟩⟩
         case round =>
          clear H'
          try clear c1
          try clear c2
          try clear p2
          try clear c5
          try clear c5b0
          try clear c5b1
          try clear c6
          try clear c8
          try clear c9
          try clear c9b0
          try clear c9b1
          try clear c10
          try clear c10b0
          try clear c15
          try clear hcz16_0
          try clear hcz16_1
          try clear hcz17_0
          try clear hcz17_1
          try clear hfz16_0
          try clear hfz16_1
          try clear hfz17_0
          try clear hfz17_1
          try clear p2
          obtain ⟨x7_4, x11_4, rfl, HA, HK4, HO_7, BK260, BK261, HB⟩ := hrel
          cases gk with
          | zero => exact absurd HA.out (by simp [agonicref05_Courses.l1])
          | succ k4 =>
           have H := HA.out
           clear HA
           simp only [agonicref05_Courses.l1] at H
           by_cases c18 : x11_4 ≤ 2
           ·rw [if_pos c18] at H
            have c18b0 : decide (x11_4 ≤ 2) = true := decide_eq_true c18
            clear c18
            replace H := zi H
            obtain ⟨t262, A190, H⟩ := H
            try dsimp only at H
            have A19 := Aside0.mk A190
            clear A190
            by_cases c20 : t262 = 0
            ·rw [if_pos c20] at H
             have c20b0 : (t262 == 0) = true := beq_iff_eq.mpr c20
             have c20b1 : (t262 != 0) = false := bne_eq_false_iff_eq.mpr c20
             clear c20
             by_cases c21 : (wrap64 ((wrap64 ((wrap64 (a1 + (wrap64 (x11_4 * 3600)))) - t256)) - t257)) = 0
             ·rw [if_pos c21] at H
              have c21b0 : ((wrap64 ((wrap64 ((wrap64 (a1 + (wrap64 (x11_4 * 3600)))) - t256)) - t257)) == 0) = true := beq_iff_eq.mpr c21
              have c21b1 : ((wrap64 ((wrap64 ((wrap64 (a1 + (wrap64 (x11_4 * 3600)))) - t256)) - t257)) != 0) = false := bne_eq_false_iff_eq.mpr c21
              clear c21
              simp only [Option.some.injEq, Prod.mk.injEq] at H
              obtain ⟨rfl, rfl⟩ := H
              have hnb22 := NB260_261.out
              have hnc22 := NB261_260.out
              have hcz23_0 : wr.cell? ⟨gb260, 0, none⟩ = some (.int .i64 t256) := zy BK260 0
              have hcz23_1 : wr.cell? ⟨gb260, 1, none⟩ = some (.int .i64 t257) := zy BK260 1
              have hfz23_0 := blk_frozen BK260.out 0
              have hfz23_1 := blk_frozen BK260.out 1
              go_wp2_with (first | ((with_reducible refine gC 60 rfl ?_); refine gL 56 Try.func60 #[.slice A0 l0.length c0, .int .i64 x8_3] ?_; (with_reducible refine (agonicref05_rise.calls _ _ l0 x8_3 t262 _ ?side1 ?side2 A19.out).mono ?_); (case side1 => exact zc (Kd.C_below HR0.out HB.out)); (case side2 => exact HC0.out); rintro e w24 ⟨rfl, hb⟩; refine ⟨_, rfl, ?_⟩; replace HB := zd hb; (try clear hb)))
              go_ret2
              exact ⟨_, ze, by first | exact Kd.R_nil _ _ _ _ _ | exact Kd.N_nil _ _ _ _ _ | exact Kd.V_nil _ _ _ _ _ | exact Kd.Q_nil _ _ _ _ _ | exact Kd.S_nil _ _ _ _ _, zh⟩
             ·rw [if_neg c21] at H
              have c21b0 : ((wrap64 ((wrap64 ((wrap64 (a1 + (wrap64 (x11_4 * 3600)))) - t256)) - t257)) == 0) = false := beq_eq_false_iff_ne.mpr c21
              have c21b1 : ((wrap64 ((wrap64 ((wrap64 (a1 + (wrap64 (x11_4 * 3600)))) - t256)) - t257)) != 0) = true := bne_iff_ne.mpr c21
              have H' := Aside0.mk H
              clear H
              have hnb25 := NB260_261.out
              have hnc25 := NB261_260.out
              have hcz26_0 : wr.cell? ⟨gb260, 0, none⟩ = some (.int .i64 t256) := zy BK260 0
              have hcz26_1 : wr.cell? ⟨gb260, 1, none⟩ = some (.int .i64 t257) := zy BK260 1
              have hfz26_0 := blk_frozen BK260.out 0
              have hfz26_1 := blk_frozen BK260.out 1
              go_wp2_with (first | ((with_reducible refine gC 60 rfl ?_); refine gL 56 Try.func60 #[.slice A0 l0.length c0, .int .i64 x8_3] ?_; (with_reducible refine (agonicref05_rise.calls _ _ l0 x8_3 t262 _ ?side1 ?side2 A19.out).mono ?_); (case side1 => exact zc (Kd.C_below HR0.out HB.out)); (case side2 => exact HC0.out); rintro e w27 ⟨rfl, hb⟩; refine ⟨_, rfl, ?_⟩; replace HO_7 := zr HO_7 hb; replace BK260 := zk BK260 hb; replace BK261 := zk BK261 hb; replace HB := zd hb; (try clear hb)))
              go_roundg k4
              case measure => have := HJ3.out; have := HJ6.out; have := HK3.out; have := HK4.out; omega
              case rel => exact ⟨(x7_4), (wrap64 (x11_4 + 1)), (by first | rfl | (simp; done) | (simp [*]; done)), H', ⟨by have := HJ3.out; have := HJ6.out; have := HK3.out; have := HK4.out; omega⟩, ⟨by refine zl ?_; exact HO_7.out⟩, ⟨by refine zm ?_; exact BK260.out⟩, ⟨by refine zm ?_; exact BK261.out⟩, ⟨zh⟩⟩
            ·rw [if_neg c20] at H
             have c20b0 : (t262 == 0) = false := beq_eq_false_iff_ne.mpr c20
             have c20b1 : (t262 != 0) = true := bne_iff_ne.mpr c20
             replace H := zi H
             obtain ⟨⟨t263, t264⟩, A280, H⟩ := H
             try dsimp only at H
             have A28 := Aside0.mk A280
             clear A280
             have HC29 := Aside0.mk H
             clear H
             have hnb30 := NB260_261.out
             have hnc30 := NB261_260.out
             have hcz31_0 : wr.cell? ⟨gb260, 0, none⟩ = some (.int .i64 t256) := zy BK260 0
             have hcz31_1 : wr.cell? ⟨gb260, 1, none⟩ = some (.int .i64 t257) := zy BK260 1
             have hfz31_0 := blk_frozen BK260.out 0
             have hfz31_1 := blk_frozen BK260.out 1
             go_upto_region 20 with (first | ((with_reducible refine gC 60 rfl ?_); refine gL 56 Try.func60 #[.slice A0 l0.length c0, .int .i64 x8_3] ?_; (with_reducible refine (agonicref05_rise.calls _ _ l0 x8_3 t262 _ ?side1 ?side2 A19.out).mono ?_); (case side1 => exact zc (Kd.C_below HR0.out HB.out)); (case side2 => exact HC0.out); rintro e w32 ⟨rfl, hb⟩; refine ⟨_, rfl, ?_⟩; replace HO_7 := zr HO_7 hb; replace BK260 := zk BK260 hb; replace BK261 := zk BK261 hb; replace HB := zd hb; (try clear hb); have hcz33_0 : w32.cell? ⟨gb261, 0, none⟩ = some (.int .i64 t258) := zy BK261 0; have hcz33_1 : w32.cell? ⟨gb261, 1, none⟩ = some (.int .i64 t259) := zy BK261 1; have hfz33_0 := blk_frozen BK261.out 0; have hfz33_1 := blk_frozen BK261.out 1; have hcz34_0 : w32.cell? ⟨gb260, 0, none⟩ = some (.int .i64 t256) := zy BK260 0; have hcz34_1 : w32.cell? ⟨gb260, 1, none⟩ = some (.int .i64 t257) := zy BK260 1; have hfz34_0 := blk_frozen BK260.out 0; have hfz34_1 := blk_frozen BK260.out 1) | ((with_reducible refine gC 66 rfl ?_); refine gL 69 Try.func66 #[.int .i64 (wrap64 ((wrap64 ((wrap64 ((wrap64 (a1 + (wrap64 (x11_4 * 3600)))) - t256)) - t257)) * (wrap64 (t258 - t256)))), .int .i64 t262] ?_; (with_reducible refine (agonicref01_Reduced.calls k4 (wrap64 ((wrap64 ((wrap64 ((wrap64 (a1 + (wrap64 (x11_4 * 3600)))) - t256)) - t257)) * (wrap64 (t258 - t256)))) t262 t263 t264 _ A28.out).mono ?_); rintro e w35 ⟨rfl, hb⟩; refine ⟨_, rfl, ?_⟩; replace HO_7 := zr HO_7 hb; replace BK260 := zk BK260 hb; replace BK261 := zk BK261 hb; replace HB := zd hb; (try clear hb)) | ((with_reducible refine gD 14 rfl ?_); refine zx 14 #[.int .i64 0, .int .i64 0] 29 ?_; intro gb265 hg w36 hbox hb; replace HO_7 := Aside0.mk (Kd.R_below (Kd.R_elderB (zo HO_7.out) gb265 (Nat.le_of_eq hg.symm)) hb); have BK265 := Aside0.mk (hbox); have GE265 := zG w hg; replace HB := zd hb; have NB260_265 := zN BK260 hg; have NB265_260 := zM BK260 hg; replace BK260 := zk BK260 hb; have NB261_265 := zN BK261 hg; have NB265_261 := zM BK261 hg; replace BK261 := zk BK261 hb; clear hb hbox hg; have hnb37 := NB265_260.out; have hnc37 := NB260_265.out; have hnb38 := NB265_261.out; have hnc38 := NB261_265.out; have hcz39_0 : w36.cell? ⟨gb265, 0, none⟩ = some (.int .i64 0) := zy BK265 0; have hcz39_1 : w36.cell? ⟨gb265, 1, none⟩ = some (.int .i64 0) := zy BK265 1; have hfz39_0 := blk_frozen BK265.out 0; have hfz39_1 := blk_frozen BK265.out 1))
             (try simp only [Act.put, List.setIfInBounds_toArray, List.set_cons_zero, List.set_cons_succ])
             go_cut [83] (fun v83 wc => ∃ (kq : Nat) (x83_28 : Bool), v83 = .bool x83_28 ∧ Aside0 (agonicref05_Courses.j4 kq l0 a1 x7_4 x8_3 x11_4 x83_28 t256 t257 t258 t259 t263 t264 = some (r1, r2)) ∧ Aside0 (kq ≤ k4) ∧ Aside0 (Kd.R k29 29 wc w.heap.size (fun k_ => k_ ≠ gb265) u7 x7_4) ∧ Aside0 (wc.heap[gb260]? = some (.cells #[.int .i64 t256, .int .i64 t257] 54 (0, 0))) ∧ Aside0 (wc.heap[gb261]? = some (.cells #[.int .i64 t258, .int .i64 t259] 54 (0, 0))) ∧ Aside0 (wc.heap[gb265]? = some (.cells #[.int .i64 t263, .int .i64 t264] 29 (0, 0))) ∧ Aside0 (Below w.heap.size w wc))
             case first =>
              have H := HC29.out
              clear HC29
              by_cases c40 : t263 < 0
              ·rw [if_pos c40] at H
               have c40b0 : decide (t263 < 0) = true := decide_eq_true c40
               clear c40
               (first | rw [c40b0] | (simp only [i64_w, i32_w]; rw [c40b0]) | skip)
               have H' := Aside0.mk H
               clear H
               try go_wp2
               have n0_ : Aside0 (Kd.R k29 29 ((w36.setCell ⟨gb265, 0, none⟩ (.int .i64 t263)).setCell ⟨gb265, 1, none⟩ (.int .i64 t264)) w.heap.size (fun k_ => k_ ≠ gb265) u7 x7_4) := ⟨by refine zl ?_; exact Kd.R_mono (Kd.R_far (p := ⟨gb265, 1, none⟩) (Kd.R_far (p := ⟨gb265, 0, none⟩) (Kd.R_mono HO_7.out (fun k_ hk => (⟨hk, hk.2⟩ : _ ∧ k_ ≠ gb265))) (fun _ hk => hk.2) (.int .i64 t263)) (fun _ hk => hk.2) (.int .i64 t264)) (fun _ hk => hk.1.2)⟩
               have n1_ : Aside0 (((w36.setCell ⟨gb265, 0, none⟩ (.int .i64 t263)).setCell ⟨gb265, 1, none⟩ (.int .i64 t264)).heap[gb260]? = some (.cells #[.int .i64 t256, .int .i64 t257] 54 (0, 0))) := ⟨by refine zm ?_; refine blk_far ?_ NB260_265.out _; refine zm ?_; refine blk_far ?_ NB260_265.out _; refine zm ?_; exact BK260.out⟩
               have n2_ : Aside0 (((w36.setCell ⟨gb265, 0, none⟩ (.int .i64 t263)).setCell ⟨gb265, 1, none⟩ (.int .i64 t264)).heap[gb261]? = some (.cells #[.int .i64 t258, .int .i64 t259] 54 (0, 0))) := ⟨by refine zm ?_; refine blk_far ?_ NB261_265.out _; refine zm ?_; refine blk_far ?_ NB261_265.out _; refine zm ?_; exact BK261.out⟩
               have n3_ : Aside0 (((w36.setCell ⟨gb265, 0, none⟩ (.int .i64 t263)).setCell ⟨gb265, 1, none⟩ (.int .i64 t264)).heap[gb265]? = some (.cells #[.int .i64 t263, .int .i64 t264] 29 (0, 0))) := ⟨by refine zm ?_; refine blk_put (cs := #[.int .i64 t263, .int .i64 0]) ?_ 1 _ rfl; refine zm ?_; refine blk_put (cs := #[.int .i64 0, .int .i64 0]) ?_ 0 _ rfl; refine zm ?_; exact BK265.out⟩
               have n4_ : Aside0 (Below w.heap.size w ((w36.setCell ⟨gb265, 0, none⟩ (.int .i64 t263)).setCell ⟨gb265, 1, none⟩ (.int .i64 t264))) := ⟨zh⟩
               (try clear HO_7)
               (try clear BK260)
               (try clear BK261)
               (try clear BK265)
               (try clear HB)
               generalize ((w36.setCell ⟨gb265, 0, none⟩ (.int .i64 t263)).setCell ⟨gb265, 1, none⟩ (.int .i64 t264)) = w41 at n0_ n1_ n2_ n3_ n4_ ⊢
               have HO_7 := n0_
               have BK260 := n1_
               have BK261 := n2_
               have BK265 := n3_
               have HB := n4_
               clear n0_ n1_ n2_ n3_ n4_
               replace HO_7 := Aside0.mk (Kd.R_drew HO_7.out)
               replace BK260 := Aside0.mk (blk_drew BK260.out)
               replace BK261 := Aside0.mk (blk_drew BK261.out)
               replace BK265 := Aside0.mk (blk_drew BK265.out)
               replace HB := Aside0.mk (below_drew1 HB.out)
               refine start_ (n := 14) (S := fun w' => w'.cell? ⟨gb265, 0, none⟩ = some (.int .i64 t263) ∧ w'.cell? ⟨gb265, 1, none⟩ = some (.int .i64 t264)) (ds := []) #[false, false, false, false, false, false, false, false, false, false, false, false, false, false] (by kernel_rfl) rfl rfl ⟨zy BK265 0, zy BK265 1⟩ (fun hHeld => ?_); refine with_tabW agonicref05_Courses.tab20 agonicref05_Courses.bits20 (fun HT_ HW_ => ?_)
               generalize w41.drew = w42 at HO_7 BK260 BK261 BK265 HB hHeld ⊢
               refine pq HT_ 0 70 14 1 ?_
               refine take_ (i := 1) (N := some 71) (v := ?_) (a' := ?_) #[true, true, false, false, false, false, false, false, false, false, false, false, false, false] rfl rfl (take_ofW HT_.out HW_.out (by kernel_rfl)) (fun _ _ _ h => h) (Or.inl ⟨by rfl, ?_⟩) hHeld ?_ ?_
               rotate_left
               ·rintro w' ⟨s0, s1⟩
                go_simp
                with_reducible rfl
               rotate_left
               ·simp only [Act.put, List.setIfInBounds_toArray, List.set_cons_zero, List.set_cons_succ, i64_w, i32_w]
                rfl
               refine pq HT_ 2 72 14 7 ?_
               refine pq HT_ 3 73 14 15 ?_
               refine pu (i := 4) (N := some 74) (zA 14 31) rfl rfl (any_of HT_.out (by kernel_rfl)) ?_
               refine pu (i := 5) (N := some 75) (zA 14 63) rfl rfl (any_of HT_.out (by kernel_rfl)) ?_
               refine pu (i := 6) (N := some 76) (zA 14 127) rfl rfl (any_of HT_.out (by kernel_rfl)) ?_
               refine pu (i := 7) (N := some 77) (zA 14 255) rfl rfl (any_of HT_.out (by kernel_rfl)) ?_
               refine pu (i := 8) (N := some 78) (zA 14 511) rfl rfl (any_of HT_.out (by kernel_rfl)) ?_
               refine pu (i := 9) (N := some 79) (zA 14 1023) rfl rfl (any_of HT_.out (by kernel_rfl)) ?_
               refine pu (i := 10) (N := some 80) (zA 14 2047) rfl rfl (any_of HT_.out (by kernel_rfl)) ?_
               refine pu (i := 11) (N := some 81) (zA 14 4095) rfl rfl (any_of HT_.out (by kernel_rfl)) ?_
               refine pu (i := 12) (N := some 82) (zA 14 8191) rfl rfl (any_of HT_.out (by kernel_rfl)) ?_
               refine pq HT_ 13 83 14 16383 ?_
               refine done_ (done_of HT_.out (by kernel_rfl)) ?_
               try go_wp2
               go_meet
               case rel => exact ⟨_, (true), (by first | rfl | (simp; done) | (simp [*]; done)), H', ⟨by have := HJ3.out; have := HJ6.out; have := HK3.out; have := HK4.out; first | omega | exact Nat.le_refl _⟩, ⟨by refine zl ?_; exact HO_7.out⟩, ⟨by refine zm ?_; exact BK260.out⟩, ⟨by refine zm ?_; exact BK261.out⟩, ⟨by refine zm ?_; exact BK265.out⟩, ⟨zh⟩⟩
              ·rw [if_neg c40] at H
               have c40b0 : decide (t263 < 0) = false := decide_eq_false c40
               clear c40
               (first | rw [c40b0] | (simp only [i64_w, i32_w]; rw [c40b0]) | skip)
               replace H := zi H
               obtain ⟨⟨t266, t267⟩, A430, H⟩ := H
               try dsimp only at H
               have A43 := Aside0.mk A430
               clear A430
               replace H := zi H
               obtain ⟨t268, A440, H⟩ := H
               try dsimp only at H
               have A44 := Aside0.mk A440
               clear A440
               have H' := Aside0.mk H
               clear H
               try go_wp2
               have n0_ : Aside0 (Kd.R k29 29 ((w36.setCell ⟨gb265, 0, none⟩ (.int .i64 t263)).setCell ⟨gb265, 1, none⟩ (.int .i64 t264)) w.heap.size (fun k_ => k_ ≠ gb265) u7 x7_4) := ⟨by refine zl ?_; exact Kd.R_mono (Kd.R_far (p := ⟨gb265, 1, none⟩) (Kd.R_far (p := ⟨gb265, 0, none⟩) (Kd.R_mono HO_7.out (fun k_ hk => (⟨hk, hk.2⟩ : _ ∧ k_ ≠ gb265))) (fun _ hk => hk.2) (.int .i64 t263)) (fun _ hk => hk.2) (.int .i64 t264)) (fun _ hk => hk.1.2)⟩
               have n1_ : Aside0 (((w36.setCell ⟨gb265, 0, none⟩ (.int .i64 t263)).setCell ⟨gb265, 1, none⟩ (.int .i64 t264)).heap[gb260]? = some (.cells #[.int .i64 t256, .int .i64 t257] 54 (0, 0))) := ⟨by refine zm ?_; refine blk_far ?_ NB260_265.out _; refine zm ?_; refine blk_far ?_ NB260_265.out _; refine zm ?_; exact BK260.out⟩
               have n2_ : Aside0 (((w36.setCell ⟨gb265, 0, none⟩ (.int .i64 t263)).setCell ⟨gb265, 1, none⟩ (.int .i64 t264)).heap[gb261]? = some (.cells #[.int .i64 t258, .int .i64 t259] 54 (0, 0))) := ⟨by refine zm ?_; refine blk_far ?_ NB261_265.out _; refine zm ?_; refine blk_far ?_ NB261_265.out _; refine zm ?_; exact BK261.out⟩
               have n3_ : Aside0 (((w36.setCell ⟨gb265, 0, none⟩ (.int .i64 t263)).setCell ⟨gb265, 1, none⟩ (.int .i64 t264)).heap[gb265]? = some (.cells #[.int .i64 t263, .int .i64 t264] 29 (0, 0))) := ⟨by refine zm ?_; refine blk_put (cs := #[.int .i64 t263, .int .i64 0]) ?_ 1 _ rfl; refine zm ?_; refine blk_put (cs := #[.int .i64 0, .int .i64 0]) ?_ 0 _ rfl; refine zm ?_; exact BK265.out⟩
               have n4_ : Aside0 (Below w.heap.size w ((w36.setCell ⟨gb265, 0, none⟩ (.int .i64 t263)).setCell ⟨gb265, 1, none⟩ (.int .i64 t264))) := ⟨zh⟩
               (try clear HO_7)
               (try clear BK260)
               (try clear BK261)
               (try clear BK265)
               (try clear HB)
               generalize ((w36.setCell ⟨gb265, 0, none⟩ (.int .i64 t263)).setCell ⟨gb265, 1, none⟩ (.int .i64 t264)) = w45 at n0_ n1_ n2_ n3_ n4_ ⊢
               have HO_7 := n0_
               have BK260 := n1_
               have BK261 := n2_
               have BK265 := n3_
               have HB := n4_
               clear n0_ n1_ n2_ n3_ n4_
               replace HO_7 := Aside0.mk (Kd.R_drew HO_7.out)
               replace BK260 := Aside0.mk (blk_drew BK260.out)
               replace BK261 := Aside0.mk (blk_drew BK261.out)
               replace BK265 := Aside0.mk (blk_drew BK265.out)
               replace HB := Aside0.mk (below_drew1 HB.out)
               refine start_ (n := 14) (S := fun w' => w'.cell? ⟨gb265, 0, none⟩ = some (.int .i64 t263) ∧ w'.cell? ⟨gb265, 1, none⟩ = some (.int .i64 t264) ∧ w'.cell? ⟨gb261, 0, none⟩ = some (.int .i64 t258) ∧ w'.cell? ⟨gb261, 1, none⟩ = some (.int .i64 t259) ∧ w'.cell? ⟨gb260, 0, none⟩ = some (.int .i64 t256) ∧ w'.cell? ⟨gb260, 1, none⟩ = some (.int .i64 t257)) (ds := []) #[false, false, false, false, false, false, false, false, false, false, false, false, false, false] (by kernel_rfl) rfl rfl ⟨zy BK265 0, zy BK265 1, zy BK261 0, zy BK261 1, zy BK260 0, zy BK260 1⟩ (fun hHeld => ?_); refine with_tabW agonicref05_Courses.tab20 agonicref05_Courses.bits20 (fun HT_ HW_ => ?_)
               generalize w45.drew = w46 at HO_7 BK260 BK261 BK265 HB hHeld ⊢
               refine pq HT_ 0 70 14 1 ?_
               refine take_ (i := 1) (N := some 71) (v := ?_) (a' := ?_) #[true, true, false, false, false, false, false, false, false, false, false, false, false, false] rfl rfl (take_ofW HT_.out HW_.out (by kernel_rfl)) (fun _ _ _ h => h) (Or.inl ⟨by rfl, ?_⟩) hHeld ?_ ?_
               rotate_left
               ·rintro w' ⟨s0, s1, s2, s3, s4, s5⟩
                go_simp
                with_reducible rfl
               rotate_left
               ·simp only [Act.put, List.setIfInBounds_toArray, List.set_cons_zero, List.set_cons_succ, i64_w, i32_w]
                rfl
               refine pq HT_ 2 72 14 7 ?_
               refine pq HT_ 3 73 14 15 ?_
               refine pq HT_ 5 75 14 47 ?_
               refine pq HT_ 7 77 14 175 ?_
               refine take_ (i := 4) (N := some 74) (v := ?_) (a' := ?_) #[true, true, true, true, true, true, false, true, false, false, false, false, false, false] rfl rfl (take_ofW HT_.out HW_.out (by kernel_rfl)) (fun _ _ _ h => h) (Or.inl ⟨by rfl, ?_⟩) hHeld ?_ ?_
               rotate_left
               ·rintro w' ⟨s0, s1, s2, s3, s4, s5⟩
                go_simp
                with_reducible rfl
               rotate_left
               ·simp only [Act.put, List.setIfInBounds_toArray, List.set_cons_zero, List.set_cons_succ, i64_w, i32_w]
                rfl
               refine take_ (i := 6) (N := some 76) (v := ?_) (a' := ?_) #[true, true, true, true, true, true, true, true, false, false, false, false, false, false] rfl rfl (take_ofW HT_.out HW_.out (by kernel_rfl)) (fun _ _ _ h => h) (Or.inl ⟨by rfl, ?_⟩) hHeld ?_ ?_
               rotate_left
               ·rintro w' ⟨s0, s1, s2, s3, s4, s5⟩
                go_simp
                with_reducible rfl
               rotate_left
               ·simp only [Act.put, List.setIfInBounds_toArray, List.set_cons_zero, List.set_cons_succ, i64_w, i32_w]
                rfl
               refine take_ (i := 8) (N := some 78) (v := ?_) (a' := ?_) #[true, true, true, true, true, true, true, true, true, false, false, false, false, false] rfl rfl (take_ofW HT_.out HW_.out (by kernel_rfl)) (fun _ _ _ h => h) (Or.inl ⟨by rfl, ?_⟩) hHeld ?_ ?_
               rotate_left
               ·rintro w' ⟨s0, s1, s2, s3, s4, s5⟩
                go_simp
                with_reducible rfl
               rotate_left
               ·simp only [Act.put, List.setIfInBounds_toArray, List.set_cons_zero, List.set_cons_succ, i64_w, i32_w]
                rfl
               refine pq HT_ 9 79 14 1023 ?_
               refine one_ (i := 10) (N := some 80) #[true, true, true, true, true, true, true, true, true, true, true, false, false, false] rfl rfl (one_of HT_.out (by kernel_rfl)) (by decide) (fun K hK => ?_)
               refine goes_ Try.func58 (by kernel_rfl) rfl #[.int .i64 (wrap64 (t258 - t256))] (by rfl) rfl rfl zs ?_
               with_reducible refine (agonicref05_whole.calls (wrap64 (t258 - t256)) t266 t267 _ A43.out).mono ?_
               rintro e w47 ⟨rfl, hb⟩
               refine ⟨_, rfl, ?_⟩
               replace HO_7 := zr HO_7 hb
               replace BK260 := zk BK260 hb
               replace BK261 := zk BK261 hb
               replace BK265 := zk BK265 hb
               replace HB := zd hb
               (try clear hb)
               (try clear hb2)
               (try clear hk)
               (try clear hi)
               refine hK.out _ _ ⟨zy BK265 0, zy BK265 1, zy BK261 0, zy BK261 1, zy BK260 0, zy BK260 1⟩ (fun hHeld => ?_)
               clear hK K
               refine norm_ (a' := ?_) ?_ ?_
               rotate_left
               ·show Act.put _ (some 80) _ = _
                simp only [Act.put, List.setIfInBounds_toArray, List.set_cons_zero, List.set_cons_succ, i64_w, i32_w]
                rfl
               refine one_ (i := 11) (N := some 81) #[true, true, true, true, true, true, true, true, true, true, true, true, false, false] rfl rfl (one_of HT_.out (by kernel_rfl)) (by decide) (fun K hK => ?_)
               refine goes_ Try.func67 (by kernel_rfl) rfl #[.agg #[.int .i64 t263, .int .i64 t264], .agg #[.int .i64 t266, .int .i64 t267]] (by rfl) rfl rfl zs ?_
               with_reducible refine (agonicref01_Less.calls t263 t264 t266 t267 t268 _ A44.out).mono ?_
               rintro e w48 ⟨rfl, hb⟩
               refine ⟨_, rfl, ?_⟩
               replace HO_7 := zr HO_7 hb
               replace BK260 := zk BK260 hb
               replace BK261 := zk BK261 hb
               replace BK265 := zk BK265 hb
               replace HB := zd hb
               (try clear hb)
               (try clear hb2)
               (try clear hk)
               (try clear hi)
               refine hK.out _ _ ⟨zy BK265 0, zy BK265 1, zy BK261 0, zy BK261 1, zy BK260 0, zy BK260 1⟩ (fun hHeld => ?_)
               clear hK K
               refine norm_ (a' := ?_) ?_ ?_
               rotate_left
               ·show Act.put _ (some 81) _ = _
                simp only [Act.put, List.setIfInBounds_toArray, List.set_cons_zero, List.set_cons_succ, i64_w, i32_w]
                rfl
               refine pq HT_ 12 82 14 8191 ?_
               refine pq HT_ 13 83 14 16383 ?_
               refine done_ (done_of HT_.out (by kernel_rfl)) ?_
               try go_wp2
               go_meet
               case rel => exact ⟨_, (!t268), (by first | rfl | (simp; done) | (simp [*]; done)), H', ⟨by have := HJ3.out; have := HJ6.out; have := HK3.out; have := HK4.out; first | omega | exact Nat.le_refl _⟩, ⟨by refine zl ?_; exact HO_7.out⟩, ⟨by refine zm ?_; exact BK260.out⟩, ⟨by refine zm ?_; exact BK261.out⟩, ⟨by refine zm ?_; exact BK265.out⟩, ⟨zh⟩⟩
             case rest =>
              clear HC29
              try clear c1
              try clear c2
              try clear p2
              try clear c3
              try clear c4
              try clear c5
              try clear c5b0
              try clear c5b1
              try clear c6
              try clear p6
              try clear c8
              try clear c9
              try clear c9b0
              try clear c9b1
              try clear c10
              try clear c10b0
              try clear c15
              try clear c18
              try clear c18b0
              try clear c20
              try clear c20b0
              try clear c20b1
              try clear c21
              try clear c21b0
              try clear c21b1
              try clear c22
              try clear c24
              try clear c25
              try clear c30
              try clear c37
              try clear c38
              try clear c40
              try clear c40b0
              try clear hcz16_0
              try clear hcz16_1
              try clear hcz17_0
              try clear hcz17_1
              try clear hcz23_0
              try clear hcz23_1
              try clear hcz26_0
              try clear hcz26_1
              try clear hcz31_0
              try clear hcz31_1
              try clear hcz33_0
              try clear hcz33_1
              try clear hcz34_0
              try clear hcz34_1
              try clear hcz39_0
              try clear hcz39_1
              try clear hfz16_0
              try clear hfz16_1
              try clear hfz17_0
              try clear hfz17_1
              try clear hfz23_0
              try clear hfz23_1
              try clear hfz26_0
              try clear hfz26_1
              try clear hfz31_0
              try clear hfz31_1
              try clear hfz33_0
              try clear hfz33_1
              try clear hfz34_0
              try clear hfz34_1
              try clear hfz39_0
              try clear hfz39_1
              try clear p2
              obtain ⟨kq, x83_28, rfl, HA, HJ28, HO_7, BK260, BK261, BK265, HB⟩ := hcut
              cases kq with
              | zero => exact absurd HA.out (by simp [agonicref05_Courses.j4])
              | succ kj28 =>
               have H := HA.out
               clear HA
               simp only [agonicref05_Courses.j4] at H
               by_cases c49 : x83_28 = true
               ·subst c49
                rw [if_pos rfl] at H
                have H' := Aside0.mk H
                clear H
                go_wp2
                go_roundg kj28
                case measure => have := HJ3.out; have := HJ6.out; have := HK3.out; have := HK4.out; have := HJ28.out; omega
                case rel => exact ⟨(x7_4), (wrap64 (x11_4 + 1)), (by first | rfl | (simp; done) | (simp [*]; done)), H', ⟨by have := HJ3.out; have := HJ6.out; have := HK3.out; have := HK4.out; have := HJ28.out; omega⟩, ⟨by refine zl ?_; exact Kd.R_mono HO_7.out (fun _ hk => trivial)⟩, ⟨by refine zm ?_; exact BK260.out⟩, ⟨by refine zm ?_; exact BK261.out⟩, ⟨zh⟩⟩
               ·replace c49 := Bool.eq_false_iff.mpr c49
                subst c49
                rw [if_neg (show ¬ (false = true) by decide)] at H
                replace H := zi H
                obtain ⟨⟨t269, t270⟩, A500, H⟩ := H
                try dsimp only at H
                have A50 := Aside0.mk A500
                clear A500
                replace H := zi H
                obtain ⟨⟨t271, t272⟩, A510, H⟩ := H
                try dsimp only at H
                have A51 := Aside0.mk A510
                clear A510
                replace H := zi H
                obtain ⟨⟨t273, t274⟩, A520, H⟩ := H
                try dsimp only at H
                have A52 := Aside0.mk A520
                clear A520
                by_cases c53 : x7_4.length < 8796093022208
                ·rw [if_pos c53] at H
                 have LMc53 := Aside0.mk c53
                 clear c53
                 obtain ⟨y275, hy275⟩ : ∃ y_ : List (S29), y_ = (x7_4 ++ [(⟨t273, t274⟩ : S29)]) := ⟨_, rfl⟩
                 replace H : (agonicref05_Courses.l2 kj28 l0 a1 y275 x8_3 x11_4 (wrap64 ((y275.length : Int) - 1)) t256 t257 t258 t259) = some (r1, r2) := by first | (rw [hy275]; with_reducible exact H) | (have H2_ := (Option.bind_some _ _).symm.trans H; rw [hy275]; with_reducible exact H2_) | (have H2_ := (Option.bind_some _ _).symm.trans H; with_reducible exact H2_) | with_reducible exact H | (rw [hy275]; exact H) | exact H
                 have Ny275 := Aside0.mk hy275
                 clear hy275
                 have H' := Aside0.mk H
                 clear H
                 try go_wp2
                 replace HO_7 := Aside0.mk (Kd.R_drew HO_7.out)
                 replace BK260 := Aside0.mk (blk_drew BK260.out)
                 replace BK261 := Aside0.mk (blk_drew BK261.out)
                 replace BK265 := Aside0.mk (blk_drew BK265.out)
                 replace HB := Aside0.mk (below_drew1 HB.out)
                 refine start_ (n := 10) (S := fun w' => w'.cell? ⟨gb260, 0, none⟩ = some (.int .i64 t256) ∧ w'.cell? ⟨gb260, 1, none⟩ = some (.int .i64 t257) ∧ w'.cell? ⟨gb265, 0, none⟩ = some (.int .i64 t263) ∧ w'.cell? ⟨gb265, 1, none⟩ = some (.int .i64 t264)) (ds := []) #[false, false, false, false, false, false, false, false, false, false] (by kernel_rfl) rfl rfl ⟨zy BK260 0, zy BK260 1, zy BK265 0, zy BK265 1⟩ (fun hHeld => ?_); refine with_tabW agonicref05_Courses.tab21 agonicref05_Courses.bits21 (fun HT_ HW_ => ?_)
                 generalize wc.drew = w54 at HO_7 BK260 BK261 BK265 HB hHeld ⊢
                 refine pq HT_ 0 84 10 1 ?_
                 refine pq HT_ 1 85 10 3 ?_
                 refine take_ (i := 2) (N := some 86) (v := ?_) (a' := ?_) #[true, true, true, false, false, false, false, false, false, false] rfl rfl (take_ofW HT_.out HW_.out (by kernel_rfl)) (fun _ _ _ h => h) (Or.inl ⟨by rfl, ?_⟩) hHeld ?_ ?_
                 rotate_left
                 ·rintro w' ⟨s0, s1, s2, s3⟩
                  go_simp
                  with_reducible rfl
                 rotate_left
                 ·simp only [Act.put, List.setIfInBounds_toArray, List.set_cons_zero, List.set_cons_succ, i64_w, i32_w]
                  rfl
                 refine take_ (i := 4) (N := some 88) (v := ?_) (a' := ?_) #[true, true, true, false, true, false, false, false, false, false] rfl rfl (take_ofW HT_.out HW_.out (by kernel_rfl)) (fun _ _ _ h => h) (Or.inl ⟨by rfl, ?_⟩) hHeld ?_ ?_
                 rotate_left
                 ·rintro w' ⟨s0, s1, s2, s3⟩
                  go_simp
                  with_reducible rfl
                 rotate_left
                 ·simp only [Act.put, List.setIfInBounds_toArray, List.set_cons_zero, List.set_cons_succ, i64_w, i32_w]
                  rfl
                 refine one_ (i := 3) (N := some 87) #[true, true, true, true, true, false, false, false, false, false] rfl rfl (one_of HT_.out (by kernel_rfl)) (by decide) (fun K hK => ?_)
                 refine goes_ Try.func58 (by kernel_rfl) rfl #[.int .i64 t256] (by rfl) rfl rfl zs ?_
                 with_reducible refine (agonicref05_whole.calls t256 t269 t270 _ A50.out).mono ?_
                 rintro e w55 ⟨rfl, hb⟩
                 refine ⟨_, rfl, ?_⟩
                 replace HO_7 := zr HO_7 hb
                 replace BK260 := zk BK260 hb
                 replace BK261 := zk BK261 hb
                 replace BK265 := zk BK265 hb
                 replace HB := zd hb
                 (try clear hb)
                 (try clear hb2)
                 (try clear hk)
                 (try clear hi)
                 refine hK.out _ _ ⟨zy BK260 0, zy BK260 1, zy BK265 0, zy BK265 1⟩ (fun hHeld => ?_)
                 clear hK K
                 refine norm_ (a' := ?_) ?_ ?_
                 rotate_left
                 ·show Act.put _ (some 87) _ = _
                  simp only [Act.put, List.setIfInBounds_toArray, List.set_cons_zero, List.set_cons_succ, i64_w, i32_w]
                  rfl
                 refine one_ (i := 5) (N := some 89) #[true, true, true, true, true, true, false, false, false, false] rfl rfl (one_of HT_.out (by kernel_rfl)) (by decide) (fun K hK => ?_)
                 refine goes_ Try.func69 (by kernel_rfl) rfl #[.agg #[.int .i64 t269, .int .i64 t270], .agg #[.int .i64 t263, .int .i64 t264]] (by rfl) rfl rfl zs ?_
                 with_reducible refine (agonicref05_Plus.calls kj28 t269 t270 t263 t264 t271 t272 _ A51.out).mono ?_
                 rintro e w56 ⟨rfl, hb⟩
                 refine ⟨_, rfl, ?_⟩
                 replace HO_7 := zr HO_7 hb
                 replace BK260 := zk BK260 hb
                 replace BK261 := zk BK261 hb
                 replace BK265 := zk BK265 hb
                 replace HB := zd hb
                 (try clear hb)
                 (try clear hb2)
                 (try clear hk)
                 (try clear hi)
                 refine hK.out _ _ ⟨zy BK260 0, zy BK260 1, zy BK265 0, zy BK265 1⟩ (fun hHeld => ?_)
                 clear hK K
                 refine norm_ (a' := ?_) ?_ ?_
                 rotate_left
                 ·show Act.put _ (some 89) _ = _
                  simp only [Act.put, List.setIfInBounds_toArray, List.set_cons_zero, List.set_cons_succ, i64_w, i32_w]
                  rfl
                 refine one_ (i := 6) (N := some 90) #[true, true, true, true, true, true, true, false, false, false] rfl rfl (one_of HT_.out (by kernel_rfl)) (by decide) (fun K hK => ?_)
                 refine goes_ Try.func68 (by kernel_rfl) rfl #[.agg #[.int .i64 t271, .int .i64 t272]] (by rfl) rfl rfl zs ?_
                 with_reducible refine (agonicref05_around.calls kj28 t271 t272 t273 t274 _ A52.out).mono ?_
                 rintro e w57 ⟨rfl, hb⟩
                 refine ⟨_, rfl, ?_⟩
                 replace HO_7 := zr HO_7 hb
                 replace BK260 := zk BK260 hb
                 replace BK261 := zk BK261 hb
                 replace BK265 := zk BK265 hb
                 replace HB := zd hb
                 (try clear hb)
                 (try clear hb2)
                 (try clear hk)
                 (try clear hi)
                 refine hK.out _ _ ⟨zy BK260 0, zy BK260 1, zy BK265 0, zy BK265 1⟩ (fun hHeld => ?_)
                 clear hK K
                 refine norm_ (a' := ?_) ?_ ?_
                 rotate_left
                 ·show Act.put _ (some 90) _ = _
                  simp only [Act.put, List.setIfInBounds_toArray, List.set_cons_zero, List.set_cons_succ, i64_w, i32_w]
                  rfl
                 refine one_ (i := 7) (N := some 91) #[true, true, true, true, true, true, true, true, false, false] rfl rfl (one_of HT_.out (by kernel_rfl)) (by decide) (fun K hK => ?_)
                 refine value_ (w1 := ?_) (v := ?_) (by rfl) rfl ?_ ?_
                 rotate_left 2
                 ·go_simp
                  constructor
                  ·rfl
                  ·rfl
                 refine hK.out _ _ ⟨(blk_cell (blk_alloc BK260.out _) 0).trans rfl, (blk_cell (blk_alloc BK260.out _) 1).trans rfl, (blk_cell (blk_alloc BK265.out _) 0).trans rfl, (blk_cell (blk_alloc BK265.out _) 1).trans rfl⟩ (fun hHeld => ?_)
                 clear hK K
                 refine norm_ (a' := ?_) ?_ ?_
                 rotate_left
                 ·show Act.put _ (some 91) _ = _
                  simp only [Act.put, List.setIfInBounds_toArray, List.set_cons_zero, List.set_cons_succ, i64_w, i32_w]
                  rfl
                 refine one_ (i := 8) (N := some 92) #[true, true, true, true, true, true, true, true, true, false] rfl rfl (one_of HT_.out (by kernel_rfl)) (by decide) (fun K hK => ?_)
                 refine Kd.R_append_step k29 (w0 := w) w.heap.size (by rfl) (.tmp 84) (.tmp 91) 42 29 (.agg #[(.int .i64 0), (.int .i64 0)]) 16 rfl Try.underlying42 info29 rfl (by decide) (by omega) u7 x7_4 (⟨t273, t274⟩ : S29) [.int .i64 t273, .int .i64 t274] (fun k_ => k_ ≠ gb265) (fun _ => False) rfl rfl ?aP (fun _ hk => hk.elim) ?aF ?aO ?aB ?aS ?aL ?_
                 (case aP => exact k29_mkM _ _ _ (⟨t273, t274⟩ : S29))
                 (case aB => exact zh)
                 (case aF => exact (fun k_ hk => Kd.freshB (g := gb265) (o := .cells #[.int .i64 t263, .int .i64 t264] 29 (0, 0)) (zb BK265) k_ hk))
                 (case aO => exact (zo HO_7.out))
                 (case aS => exact (below_size zh))
                 (case aL => have := LMc53.out; omega)
                 intro v276 w58 ho hb hg hat
                 rw [← Ny275.out] at ho
                 replace BK260 := Aside0.mk (blk_grown (g := gb260) (o := .cells #[.int .i64 t256, .int .i64 t257] 54 (0, 0)) (zb BK260) hg (Kd.R_ne HO_7.out BK260.out (by decide)))
                 replace BK261 := Aside0.mk (blk_grown (g := gb261) (o := .cells #[.int .i64 t258, .int .i64 t259] 54 (0, 0)) (zb BK261) hg (Kd.R_ne HO_7.out BK261.out (by decide)))
                 replace BK265 := Aside0.mk (blk_grown (g := gb265) (o := .cells #[.int .i64 t263, .int .i64 t264] 29 (0, 0)) (zb BK265) hg (Kd.R_away HO_7.out (fun _ hk => hk)))
                 replace HB := Aside0.mk (hb)
                 have HO277 := Aside0.mk (ho)
                 clear HO_7
                 clear ho hb hg hat
                 refine hK.out _ _ ⟨zy BK260 0, zy BK260 1, zy BK265 0, zy BK265 1⟩ (fun hHeld => ?_)
                 clear hK K
                 refine norm_ (a' := ?_) ?_ ?_
                 rotate_left
                 ·show Act.put _ (some 92) _ = _
                  simp only [Act.put, List.setIfInBounds_toArray, List.set_cons_zero, List.set_cons_succ, i64_w, i32_w]
                  rfl
                 refine pq HT_ 9 7 10 1023 ?_
                 refine done_ (done_of HT_.out (by kernel_rfl)) ?_
                 obtain ⟨Ao59, co59, eo59⟩ := Kd.R_slice HO277.out
                 subst eo59
                 try go_wp2
                 go_loopg [15] kj28 (fun kq v15 w' => ∃ (x7_6 : List (S29)) (x15_6 : Int) (x266000_6 : Int) (x266001_6 : Int), v15 = .int .i64 x15_6 ∧ Aside0 (agonicref05_Courses.l2 kq l0 a1 x7_6 x8_3 x11_4 x15_6 t256 t257 t258 t259 = some (r1, r2)) ∧ Aside0 (kq ≤ kj28) ∧ Aside0 (Kd.R k29 29 w' w.heap.size (fun k_ => k_ ≠ gb265) (.slice Ao59 y275.length co59) x7_6) ∧ Aside0 (w'.heap[gb260]? = some (.cells #[.int .i64 t256, .int .i64 t257] 54 (0, 0))) ∧ Aside0 (w'.heap[gb261]? = some (.cells #[.int .i64 t258, .int .i64 t259] 54 (0, 0))) ∧ Aside0 (w'.heap[gb265]? = some (.cells #[.int .i64 x266000_6, .int .i64 x266001_6] 29 (0, 0))) ∧ Aside0 (Below w.heap.size w w'))
                 case atStart => exact ⟨(y275), (wrap64 ((y275.length : Int) - 1)), (t263), (t264), (by first | rfl | (simp; done) | (simp [*]; done)), H', ⟨Nat.le_refl _⟩, ⟨by refine zl ?_; exact HO277.out⟩, ⟨by refine zm ?_; exact BK260.out⟩, ⟨by refine zm ?_; exact BK261.out⟩, ⟨by refine zm ?_; exact BK265.out⟩, ⟨zh⟩⟩
                 case round =>
                  clear H'
                  try clear c1
                  try clear c2
                  try clear p2
                  try clear c3
                  try clear c4
                  try clear c5
                  try clear c5b0
                  try clear c5b1
                  try clear c6
                  try clear p6
                  try clear c8
                  try clear c9
                  try clear c9b0
                  try clear c9b1
                  try clear c10
                  try clear c10b0
                  try clear c15
                  try clear c18
                  try clear c18b0
                  try clear c20
                  try clear c20b0
                  try clear c20b1
                  try clear c21
                  try clear c21b0
                  try clear c21b1
                  try clear c22
                  try clear c24
                  try clear c25
                  try clear c30
                  try clear c37
                  try clear c38
                  try clear c40
                  try clear c40b0
                  try clear c49
                  try clear c53
                  try clear c58
                  try clear hcz16_0
                  try clear hcz16_1
                  try clear hcz17_0
                  try clear hcz17_1
                  try clear hcz23_0
                  try clear hcz23_1
                  try clear hcz26_0
                  try clear hcz26_1
                  try clear hcz31_0
                  try clear hcz31_1
                  try clear hcz33_0
                  try clear hcz33_1
                  try clear hcz34_0
                  try clear hcz34_1
                  try clear hcz39_0
                  try clear hcz39_1
                  try clear hfz16_0
                  try clear hfz16_1
                  try clear hfz17_0
                  try clear hfz17_1
                  try clear hfz23_0
                  try clear hfz23_1
                  try clear hfz26_0
                  try clear hfz26_1
                  try clear hfz31_0
                  try clear hfz31_1
                  try clear hfz33_0
                  try clear hfz33_1
                  try clear hfz34_0
                  try clear hfz34_1
                  try clear hfz39_0
                  try clear hfz39_1
                  try clear p2
                  try clear p6
                  obtain ⟨x7_6, x15_6, x266000_6, x266001_6, rfl, HA, HK6, HO_7, BK260, BK261, BK265, HB⟩ := hrel
                  have hl7_6 := (Kd.R_reads' HO_7.out).1
                  rw [hl7_6] at HO_7
                  (try simp only [hl7_6])
                  (try simp only [hl7_6] at BK260)
                  (try simp only [hl7_6] at BK261)
                  (try simp only [hl7_6] at BK265)
                  cases gk with
                  | zero => exact absurd HA.out (by simp [agonicref05_Courses.l2])
                  | succ k6 =>
                   have H := HA.out
                   clear HA
                   simp only [agonicref05_Courses.l2] at H
                   by_cases c60 : x15_6 > 0
                   ·rw [if_pos c60] at H
                    have c60b0 : decide (0 < x15_6) = true := decide_eq_true c60
                    clear c60
                    by_cases c61 : 0 ≤ x15_6
                    ·rw [if_pos c61] at H
                     have c61b0 : decide (0 ≤ x15_6) = true := decide_eq_true c61
                     clear c61
                     by_cases c62 : x15_6 < (x7_6.length : Int)
                     ·rw [if_pos c62] at H
                      have c62b0 : decide (x15_6 < (x7_6.length : Int)) = true := decide_eq_true c62
                      clear c62
                      obtain ⟨ji63, hji63⟩ : ∃ j_ : Int, (wrap64 (x15_6 - 1)) = j_ := ⟨_, rfl⟩
                      replace H : (if 0 ≤ (ji63) then (if (ji63) < (x7_6.length : Int) then ((agonicref01_Less.f ((rd_T29 x7_6 x15_6).f0) ((rd_T29 x7_6 x15_6).f1) ((rd_T29 x7_6 (ji63)).f0) ((rd_T29 x7_6 (ji63)).f1)).bind fun t280 => (if t280 = true then (agonicref05_Courses.l2 k6 l0 a1 ((x7_6.set (x15_6 : Int).toNat (⟨(rd_T29 x7_6 (ji63)).f0, (rd_T29 x7_6 (ji63)).f1⟩ : S29)).set ((ji63) : Int).toNat (⟨(rd_T29 x7_6 x15_6).f0, (rd_T29 x7_6 x15_6).f1⟩ : S29)) x8_3 x11_4 ji63 t256 t257 t258 t259) else (agonicref05_Courses.l1 k6 l0 a1 x7_6 x8_3 (wrap64 (x11_4 + 1)) t256 t257 t258 t259))) else (none)) else (none)) = some (r1, r2) := by first | (rw [hji63] at H; exact H) | (simp only [hji63] at H ⊢; exact H)
                      have hji63w : (IntKind.i64.wrap (x15_6 - 1)) = ji63 := (i64_w _).trans hji63
                      by_cases c64 : 0 ≤ (ji63)
                      ·rw [if_pos c64] at H
                       have c64b0 : decide (0 ≤ (ji63)) = true := decide_eq_true c64
                       clear c64
                       by_cases c65 : (ji63) < (x7_6.length : Int)
                       ·rw [if_pos c65] at H
                        have c65b0 : decide ((ji63) < (x7_6.length : Int)) = true := decide_eq_true c65
                        clear c65
                        replace H := zi H
                        obtain ⟨t280, A660, H⟩ := H
                        try dsimp only at H
                        have A66 := Aside0.mk A660
                        clear A660
                        by_cases c67 : t280 = true
                        ·subst c67
                         rw [if_pos rfl] at H
                         obtain ⟨y283, hy283⟩ : ∃ y_ : List (S29), y_ = (x7_6.set (x15_6 : Int).toNat (⟨(rd_T29 x7_6 (ji63)).f0, (rd_T29 x7_6 (ji63)).f1⟩ : S29)) := ⟨_, rfl⟩
                         replace H : (agonicref05_Courses.l2 k6 l0 a1 (y283.set ((ji63) : Int).toNat (⟨(rd_T29 x7_6 x15_6).f0, (rd_T29 x7_6 x15_6).f1⟩ : S29)) x8_3 x11_4 ji63 t256 t257 t258 t259) = some (r1, r2) := by first | (rw [hy283]; with_reducible exact H) | (have H2_ := (Option.bind_some _ _).symm.trans H; rw [hy283]; with_reducible exact H2_) | (have H2_ := (Option.bind_some _ _).symm.trans H; with_reducible exact H2_) | with_reducible exact H | (rw [hy283]; exact H) | exact H
                         have Ny283 := Aside0.mk hy283
                         clear hy283
                         obtain ⟨y284, hy284⟩ : ∃ y_ : List (S29), y_ = (y283.set ((ji63) : Int).toNat (⟨(rd_T29 x7_6 x15_6).f0, (rd_T29 x7_6 x15_6).f1⟩ : S29)) := ⟨_, rfl⟩
                         replace H : (agonicref05_Courses.l2 k6 l0 a1 y284 x8_3 x11_4 ji63 t256 t257 t258 t259) = some (r1, r2) := by first | (rw [hy284]; with_reducible exact H) | (have H2_ := (Option.bind_some _ _).symm.trans H; rw [hy284]; with_reducible exact H2_) | (have H2_ := (Option.bind_some _ _).symm.trans H; with_reducible exact H2_) | with_reducible exact H | (rw [hy284]; exact H) | exact H
                         have Ny284 := Aside0.mk hy284
                         clear hy284
                         have H' := Aside0.mk H
                         clear H
                         try go_wp2
                         replace HO_7 := Aside0.mk (Kd.R_drew HO_7.out)
                         replace BK260 := Aside0.mk (blk_drew BK260.out)
                         replace BK261 := Aside0.mk (blk_drew BK261.out)
                         replace BK265 := Aside0.mk (blk_drew BK265.out)
                         replace HB := Aside0.mk (below_drew1 HB.out)
                         have p278 : 0 ≤ (x15_6 : Int) := zp
                         have q278 : x15_6 < (x7_6.length : Int) := zp
                         obtain ⟨ad278, e278, hx278_0, hx278_1⟩ := at_T29 (Kd.R_reads' HO_7.out).2.2 x15_6 p278 q278
                         cases e278
                         replace p278 := eq_true p278
                         replace q278 := eq_true q278
                         have p279 : 0 ≤ ((ji63) : Int) := zp
                         have q279 : (ji63) < (x7_6.length : Int) := zp
                         obtain ⟨ad279, e279, hx279_0, hx279_1⟩ := at_T29 (Kd.R_reads' HO_7.out).2.2 (ji63) p279 q279
                         obtain rfl : ad278 = ad279 := (by injection e279)
                         replace p279 := eq_true p279
                         replace q279 := eq_true q279
                         refine start_ (n := 14) (S := fun w' => w'.cell? (ad278.add ((x15_6).toNat * 2)) = some (.int .i64 ((rd_T29 x7_6 x15_6).f0)) ∧ w'.cell? ⟨(ad278.add ((x15_6).toNat * 2)).block, (ad278.add ((x15_6).toNat * 2)).off + 1, none⟩ = some (.int .i64 ((rd_T29 x7_6 x15_6).f1)) ∧ w'.cell? (ad278.add (((ji63)).toNat * 2)) = some (.int .i64 ((rd_T29 x7_6 (ji63)).f0)) ∧ w'.cell? ⟨(ad278.add (((ji63)).toNat * 2)).block, (ad278.add (((ji63)).toNat * 2)).off + 1, none⟩ = some (.int .i64 ((rd_T29 x7_6 (ji63)).f1))) (ds := []) #[false, false, false, false, false, false, false, false, false, false, false, false, false, false] (by kernel_rfl) rfl rfl ⟨hx278_0, hx278_1, hx279_0, hx279_1⟩ (fun hHeld => ?_); refine with_tabW agonicref05_Courses.tab23 agonicref05_Courses.bits23 (fun HT_ HW_ => ?_)
                         generalize wr.drew = w70 at HO_7 BK260 BK261 BK265 HB hx278_0 hx278_1 hx279_0 hx279_1 hHeld ⊢
                         refine pq HT_ 0 96 14 1 ?_
                         refine pq HT_ 1 97 14 3 ?_
                         refine pq HT_ 2 98 14 7 ?_
                         refine pq HT_ 3 99 14 15 ?_
                         refine pq HT_ 4 100 14 31 ?_
                         refine pq HT_ 5 101 14 63 ?_
                         refine pq HT_ 7 103 14 191 ?_
                         refine pq HT_ 8 104 14 447 ?_
                         refine pq HT_ 9 105 14 959 ?_
                         refine pq HT_ 10 106 14 1983 ?_
                         refine take_ (i := 6) (N := some 102) (v := ?_) (a' := ?_) #[true, true, true, true, true, true, true, true, true, true, true, false, false, false] rfl rfl (take_ofW HT_.out HW_.out (by kernel_rfl)) (fun _ _ _ h => h) (Or.inl ⟨by rfl, ?_⟩) hHeld ?_ ?_
                         rotate_left
                         ·rintro w' ⟨s0, s1, s2, s3⟩
                          go_simp
                          with_reducible rfl
                         rotate_left
                         ·simp only [Act.put, List.setIfInBounds_toArray, List.set_cons_zero, List.set_cons_succ, i64_w, i32_w]
                          rfl
                         refine take_ (i := 11) (N := some 107) (v := ?_) (a' := ?_) #[true, true, true, true, true, true, true, true, true, true, true, true, false, false] rfl rfl (take_ofW HT_.out HW_.out (by kernel_rfl)) (fun _ _ _ h => h) (Or.inl ⟨by rfl, ?_⟩) hHeld ?_ ?_
                         rotate_left
                         ·rintro w' ⟨s0, s1, s2, s3⟩
                          go_simp
                          with_reducible rfl
                         rotate_left
                         ·simp only [Act.put, List.setIfInBounds_toArray, List.set_cons_zero, List.set_cons_succ, i64_w, i32_w]
                          rfl
                         refine one_ (i := 12) (N := some 108) #[true, true, true, true, true, true, true, true, true, true, true, true, true, false] rfl rfl (one_of HT_.out (by kernel_rfl)) (by decide) (fun K hK => ?_)
                         refine goes_ Try.func67 (by kernel_rfl) rfl #[.agg #[.int .i64 ((rd_T29 x7_6 x15_6).f0), .int .i64 ((rd_T29 x7_6 x15_6).f1)], .agg #[.int .i64 ((rd_T29 x7_6 (ji63)).f0), .int .i64 ((rd_T29 x7_6 (ji63)).f1)]] (by rfl) rfl rfl (by (try simp only [List.map_toArray, List.map_cons, List.map_nil]); first | done | (simp only [hji63]; rfl) | rfl | (simp only [List.length_drop, List.length_take]; rfl)) ?_
                         with_reducible refine (agonicref01_Less.calls ((rd_T29 x7_6 x15_6).f0) ((rd_T29 x7_6 x15_6).f1) ((rd_T29 x7_6 (ji63)).f0) ((rd_T29 x7_6 (ji63)).f1) true _ A66.out).mono ?_
                         rintro e w71 ⟨rfl, hb⟩
                         have HS0_ := (hb.cell (World.block_lt_of_cell? _ _ (hHeld.1))).trans (hHeld.1)
                         have HS1_ := (hb.cell (World.block_lt_of_cell? _ _ (hHeld.2.1))).trans (hHeld.2.1)
                         have HS2_ := (hb.cell (World.block_lt_of_cell? _ _ (hHeld.2.2.1))).trans (hHeld.2.2.1)
                         have HS3_ := (hb.cell (World.block_lt_of_cell? _ _ (hHeld.2.2.2))).trans (hHeld.2.2.2)
                         refine ⟨_, rfl, ?_⟩
                         replace HO_7 := zr HO_7 hb
                         replace BK260 := zk BK260 hb
                         replace BK261 := zk BK261 hb
                         replace BK265 := zk BK265 hb
                         replace HB := zd hb
                         (try clear hb)
                         (try clear hb2)
                         (try clear hk)
                         (try clear hi)
                         refine hK.out _ _ ⟨HS0_, HS1_, HS2_, HS3_⟩ (fun hHeld => ?_)
                         clear hK K
                         refine norm_ (a' := ?_) ?_ ?_
                         rotate_left
                         ·show Act.put _ (some 108) _ = _
                          simp only [Act.put, List.setIfInBounds_toArray, List.set_cons_zero, List.set_cons_succ, i64_w, i32_w]
                          rfl
                         refine pq HT_ 13 109 14 16383 ?_
                         refine done_ (done_of HT_.out (by kernel_rfl)) ?_
                         try go_wp2
                         replace HO_7 := Aside0.mk (Kd.R_drew HO_7.out)
                         replace BK260 := Aside0.mk (blk_drew BK260.out)
                         replace BK261 := Aside0.mk (blk_drew BK261.out)
                         replace BK265 := Aside0.mk (blk_drew BK265.out)
                         replace HB := Aside0.mk (below_drew1 HB.out)
                         have p281 : 0 ≤ ((ji63) : Int) := zp
                         have q281 : (ji63) < (x7_6.length : Int) := zp
                         obtain ⟨ad281, e281, hx281_0, hx281_1⟩ := at_T29 (Kd.R_reads' HO_7.out).2.2 (ji63) p281 q281
                         obtain rfl : ad278 = ad281 := (by injection e281)
                         replace p281 := eq_true p281
                         replace q281 := eq_true q281
                         have p282 : 0 ≤ (x15_6 : Int) := zp
                         have q282 : x15_6 < (x7_6.length : Int) := zp
                         obtain ⟨ad282, e282, hx282_0, hx282_1⟩ := at_T29 (Kd.R_reads' HO_7.out).2.2 x15_6 p282 q282
                         obtain rfl : ad278 = ad282 := (by injection e282)
                         replace p282 := eq_true p282
                         replace q282 := eq_true q282
                         have p68 : 0 ≤ (x15_6 : Int) := zp
                         have q68 : (x15_6 : Int) < ((x7_6.length : Int) : Int) := zp
                         obtain ⟨go68, co68, eo68, gb68, gl68, cl68, HG68⟩ := Kd.R_form HO_7.out (by omega)
                         (first | cases eo68 | (injection eo68 with ea_ en_ ec_; (first | subst ea_ | (injection ea_ with ea_; subst ea_)); subst ec_; clear en_))
                         have GB68 := Aside0.mk gb68
                         have GG68 := Aside0.mk HG68
                         clear gb68 gl68 HG68
                         (first | simp only [add_plain] at hx278_0 | skip)
                         (first | simp only [add_plain] at hx278_1 | skip)
                         (first | simp only [add_plain] at hx279_0 | skip)
                         (first | simp only [add_plain] at hx279_1 | skip)
                         (first | simp only [add_plain] at hx281_0 | skip)
                         (first | simp only [add_plain] at hx281_1 | skip)
                         (first | simp only [add_plain] at hx282_0 | skip)
                         (first | simp only [add_plain] at hx282_1 | skip)
                         obtain ⟨ce68, hcl68, hM68, hcc68, hfr68⟩ := Kd.R_elem HO_7.out z29 (x15_6 : Int) p68 q68
                         obtain rfl := k29_openM hM68
                         have hx68_0 : World.cell? _ ⟨go68, (x15_6 : Int).toNat * 2, none⟩ = some (.int .i64 ((rd_T29 x7_6 x15_6).f0)) := hcc68 0 _ rfl
                         have hx68_1 : World.cell? _ ⟨go68, (x15_6 : Int).toNat * 2 + 1, none⟩ = some (.int .i64 ((rd_T29 x7_6 x15_6).f1)) := hcc68 1 _ rfl
                         have hf68_0 : World.frozen? _ ⟨go68, (x15_6 : Int).toNat * 2, none⟩ = false := hfr68 0
                         have hf68_1 : World.frozen? _ ⟨go68, (x15_6 : Int).toNat * 2 + 1, none⟩ = false := hfr68 1
                         clear hcl68 hcc68 hfr68 hM68
                         replace p68 := eq_true p68
                         replace q68 := eq_true q68
                         obtain ⟨ce73, hcl73, hM73, hcc73, hfr73⟩ := Kd.R_elem HO_7.out z29 (x15_6 : Int) (zp) (by have h_ : (x15_6 : Int) < ((x7_6.length : Int) : Int) := zp; first | exact h_ | (have e_ := (Kd.R_reads' HO_7.out).1; omega) | simpa using h_)
                         obtain rfl := k29_openM hM73
                         have HP73 := (Kd.R_seg HO_7.out (x15_6 : Int) (zp) (by have h_ : (x15_6 : Int) < ((x7_6.length : Int) : Int) := zp; first | exact h_ | (have e_ := (Kd.R_reads' HO_7.out).1; omega) | simpa using h_) (seg := [.int .i64 ((rd_T29 x7_6 (ji63)).f0), .int .i64 ((rd_T29 x7_6 (ji63)).f1)]) (j := 0) hcl73 hcc73 (show 2 ≤ 2 from by decide) (x' := (⟨(rd_T29 x7_6 (ji63)).f0, (rd_T29 x7_6 (ji63)).f1⟩ : S29)) (k29_mkM _ _ _ (⟨(rd_T29 x7_6 (ji63)).f0, (rd_T29 x7_6 (ji63)).f1⟩ : S29) ) (fun _ hk => hk)).1
                         rw [← Ny283.out] at HP73
                         have HQ73 := Aside0.mk HP73
                         clear hcl73 hcc73 hfr73 hM73 HP73
                         have p69 : 0 ≤ ((ji63) : Int) := zp
                         have q69 : ((ji63) : Int) < ((x7_6.length : Int) : Int) := zp
                         obtain ⟨ce69, hcl69, hM69, hcc69, hfr69⟩ := Kd.R_elem HQ73.out z29 ((ji63) : Int) p69 q69
                         obtain rfl := k29_openM hM69
                         have hx69_0 : World.cell? _ ⟨go68, ((ji63) : Int).toNat * 2, none⟩ = some (.int .i64 ((rd_T29 y283 (ji63)).f0)) := hcc69 0 _ rfl
                         have hx69_1 : World.cell? _ ⟨go68, ((ji63) : Int).toNat * 2 + 1, none⟩ = some (.int .i64 ((rd_T29 y283 (ji63)).f1)) := hcc69 1 _ rfl
                         have hf69_0 : World.frozen? _ ⟨go68, ((ji63) : Int).toNat * 2, none⟩ = false := hfr69 0
                         have hf69_1 : World.frozen? _ ⟨go68, ((ji63) : Int).toNat * 2 + 1, none⟩ = false := hfr69 1
                         clear hcl69 hcc69 hfr69 hM69
                         replace p69 := eq_true p69
                         replace q69 := eq_true q69
                         obtain ⟨ce74, hcl74, hM74, hcc74, hfr74⟩ := Kd.R_elem HQ73.out z29 ((ji63) : Int) (zp) (by have h_ : ((ji63) : Int) < ((x7_6.length : Int) : Int) := zp; first | exact h_ | (have e_ := (Kd.R_reads' HO_7.out).1; omega) | simpa using h_)
                         obtain rfl := k29_openM hM74
                         have HP74 := (Kd.R_seg HQ73.out ((ji63) : Int) (zp) (by have h_ : ((ji63) : Int) < ((x7_6.length : Int) : Int) := zp; first | exact h_ | (have e_ := (Kd.R_reads' HO_7.out).1; omega) | simpa using h_) (seg := [.int .i64 ((rd_T29 x7_6 x15_6).f0), .int .i64 ((rd_T29 x7_6 x15_6).f1)]) (j := 0) hcl74 hcc74 (show 2 ≤ 2 from by decide) (x' := (⟨(rd_T29 x7_6 x15_6).f0, (rd_T29 x7_6 x15_6).f1⟩ : S29)) (k29_mkM _ _ _ (⟨(rd_T29 x7_6 x15_6).f0, (rd_T29 x7_6 x15_6).f1⟩ : S29) ) (fun _ hk => hk)).1
                         rw [← Ny284.out] at HP74
                         have HQ74 := Aside0.mk HP74
                         clear hcl74 hcc74 hfr74 hM74 HP74
                         refine start_ (n := 18) (S := fun w' => w'.cell? ⟨go68, (((ji63)).toNat * 2), none⟩ = some (.int .i64 ((rd_T29 x7_6 (ji63)).f0)) ∧ w'.cell? ⟨go68, (((ji63)).toNat * 2) + 1, none⟩ = some (.int .i64 ((rd_T29 x7_6 (ji63)).f1)) ∧ w'.cell? ⟨go68, ((x15_6).toNat * 2), none⟩ = some (.int .i64 ((rd_T29 x7_6 x15_6).f0)) ∧ w'.cell? ⟨go68, ((x15_6).toNat * 2) + 1, none⟩ = some (.int .i64 ((rd_T29 x7_6 x15_6).f1))) (ds := [15, 17]) #[false, false, false, false, false, false, false, false, false, false, false, false, false, false, false, false, false, false] (by kernel_rfl) rfl rfl ⟨hx281_0, hx281_1, hx282_0, hx282_1⟩ (fun hHeld => ?_); refine with_tabW agonicref05_Courses.tab25 agonicref05_Courses.bits25 (fun HT_ HW_ => ?_)
                         generalize w71.drew = w72 at HO_7 BK260 BK261 BK265 HB GG68 HQ73 HQ74 hf68_0 hf68_1 hf69_0 hf69_1 hx278_0 hx278_1 hx279_0 hx279_1 hx281_0 hx281_1 hx282_0 hx282_1 hx68_0 hx68_1 hx69_0 hx69_1 hHeld ⊢
                         refine pq HT_ 0 112 18 1 ?_
                         refine pq HT_ 1 113 18 3 ?_
                         refine pq HT_ 2 114 18 7 ?_
                         refine pq HT_ 3 115 18 15 ?_
                         refine pq HT_ 4 116 18 31 ?_
                         refine pq HT_ 5 117 18 63 ?_
                         refine pq HT_ 6 118 18 127 ?_
                         refine pq HT_ 7 119 18 255 ?_
                         refine pq HT_ 8 120 18 511 ?_
                         refine pq HT_ 10 122 18 1535 ?_
                         refine pq HT_ 11 123 18 3583 ?_
                         refine pq HT_ 12 124 18 7679 ?_
                         refine take_ (i := 9) (N := some 121) (v := ?_) (a' := ?_) #[true, true, true, true, true, true, true, true, true, true, true, true, true, false, false, false, false, false] rfl rfl (take_ofW HT_.out HW_.out (by kernel_rfl)) (fun _ _ _ h => h) (Or.inl ⟨by rfl, ?_⟩) hHeld ?_ ?_
                         rotate_left
                         ·rintro w' ⟨s0, s1, s2, s3⟩
                          go_simp
                          with_reducible rfl
                         rotate_left
                         ·simp only [Act.put, List.setIfInBounds_toArray, List.set_cons_zero, List.set_cons_succ, i64_w, i32_w]
                          rfl
                         refine take_ (i := 13) (N := some 125) (v := ?_) (a' := ?_) #[true, true, true, true, true, true, true, true, true, true, true, true, true, true, false, false, false, false] rfl rfl (take_ofW HT_.out HW_.out (by kernel_rfl)) (fun _ _ _ h => h) (Or.inl ⟨by rfl, ?_⟩) hHeld ?_ ?_
                         rotate_left
                         ·rintro w' ⟨s0, s1, s2, s3⟩
                          go_simp
                          with_reducible rfl
                         rotate_left
                         ·simp only [Act.put, List.setIfInBounds_toArray, List.set_cons_zero, List.set_cons_succ, i64_w, i32_w]
                          rfl
                         refine pq HT_ 14 126 18 32767 ?_
                         refine last_ (i := 15) (N := none) #[true, true, true, true, true, true, true, true, true, true, true, true, true, true, true, true, false, false] rfl rfl (one_of HT_.out (by kernel_rfl)) (by decide) (fun K hK => ?_)
                         refine skip_ (w1 := ?_) (by rfl) rfl ?_ ?_
                         rotate_left
                         ·go_simp
                          rfl
                         refine hK.out _ _ ?_
                         clear hK K
                         refine pq HT_ 16 127 18 131071 ?_
                         obtain ⟨yy0_, hyy0_⟩ := cell?_setCell_some (p := ⟨go68, ((x15_6).toNat * 2), none⟩) (x := (.int .i64 ((rd_T29 x7_6 (ji63)).f0))) hx281_0
                         obtain ⟨yy1_, hyy1_⟩ := cell?_setCell_some (p := ⟨go68, ((x15_6).toNat * 2), none⟩) (x := (.int .i64 ((rd_T29 x7_6 (ji63)).f0))) hx281_1
                         obtain ⟨yy2_, hyy2_⟩ := cell?_setCell_some (p := ⟨go68, ((x15_6).toNat * 2) + 1, none⟩) (x := (.int .i64 ((rd_T29 x7_6 (ji63)).f1))) hyy1_
                         have hfz9_1 := blk_frozen GG68.out ((((ji63)).toNat * 2))
                         have hfz9_3 := blk_frozen GG68.out ((((ji63)).toNat * 2) + 1)
                         refine last_ (i := 17) (N := none) #[true, true, true, true, true, true, true, true, true, true, true, true, true, true, true, true, true, true] rfl rfl (one_of HT_.out (by kernel_rfl)) (by decide) (fun K hK => ?_)
                         refine skip_ (w1 := ?_) (by rfl) rfl ?_ ?_
                         rotate_left
                         ·go_simp
                          rfl
                         refine hK.out _ _ ?_
                         clear hK K
                         refine done_ (done_of HT_.out (by kernel_rfl)) ?_
                         try go_wp2
                         (try simp only [← hl7_6])
                         go_roundg k6
                         case measure => have := HJ3.out; have := HJ6.out; have := HK3.out; have := HK4.out; have := HJ28.out; have := HK6.out; omega
                         case rel => exact ⟨(y284), (ji63), (x266000_6), (x266001_6), (by first | rfl | (simp; done) | (simp only [← hji63] <;> (first | rfl | simp)) | (simp [*]; done)), H', ⟨by have := HJ3.out; have := HJ6.out; have := HK3.out; have := HK4.out; have := HJ28.out; have := HK6.out; omega⟩, ⟨by (try simp only [hl7_6]); refine zl ?_; exact HQ74.out⟩, ⟨by (try simp only [hl7_6]); refine zm ?_; refine blk_far ?_ (by have h_ := Kd.R_ne HO_7.out BK260.out (by decide); intro e_; exact h_ (by rw [e_]; rfl)) _; refine zm ?_; refine blk_far ?_ (by have h_ := Kd.R_ne HO_7.out BK260.out (by decide); intro e_; exact h_ (by rw [e_]; rfl)) _; refine zm ?_; refine blk_far ?_ (by have h_ := Kd.R_ne HO_7.out BK260.out (by decide); intro e_; exact h_ (by rw [e_]; rfl)) _; refine zm ?_; refine blk_far ?_ (by have h_ := Kd.R_ne HO_7.out BK260.out (by decide); intro e_; exact h_ (by rw [e_]; rfl)) _; refine zm ?_; exact BK260.out⟩, ⟨by (try simp only [hl7_6]); refine zm ?_; refine blk_far ?_ (by have h_ := Kd.R_ne HO_7.out BK261.out (by decide); intro e_; exact h_ (by rw [e_]; rfl)) _; refine zm ?_; refine blk_far ?_ (by have h_ := Kd.R_ne HO_7.out BK261.out (by decide); intro e_; exact h_ (by rw [e_]; rfl)) _; refine zm ?_; refine blk_far ?_ (by have h_ := Kd.R_ne HO_7.out BK261.out (by decide); intro e_; exact h_ (by rw [e_]; rfl)) _; refine zm ?_; refine blk_far ?_ (by have h_ := Kd.R_ne HO_7.out BK261.out (by decide); intro e_; exact h_ (by rw [e_]; rfl)) _; refine zm ?_; exact BK261.out⟩, ⟨by (try simp only [hl7_6]); refine zm ?_; refine blk_far ?_ (by have h_ := Kd.R_away HO_7.out (fun _ hk => hk); intro e_; exact h_ (by rw [e_]; rfl)) _; refine zm ?_; refine blk_far ?_ (by have h_ := Kd.R_away HO_7.out (fun _ hk => hk); intro e_; exact h_ (by rw [e_]; rfl)) _; refine zm ?_; refine blk_far ?_ (by have h_ := Kd.R_away HO_7.out (fun _ hk => hk); intro e_; exact h_ (by rw [e_]; rfl)) _; refine zm ?_; refine blk_far ?_ (by have h_ := Kd.R_away HO_7.out (fun _ hk => hk); intro e_; exact h_ (by rw [e_]; rfl)) _; refine zm ?_; exact BK265.out⟩, ⟨by repeat (first | (with_reducible first | exact HB.out | apply below_alloc | apply pw_below_drewN | apply below_drew1 | refine below_set ?_ GB68.out | refine below_set ?_ GB68.out | refine below_set ?_ GB68.out | refine below_set ?_ GB68.out | refine below_set ?_ GE260.out | refine below_set ?_ GE261.out | refine below_set ?_ GE265.out) | exact HB.out)⟩⟩
                        ·replace c67 := Bool.eq_false_iff.mpr c67
                         subst c67
                         rw [if_neg (show ¬ (false = true) by decide)] at H
                         have H' := Aside0.mk H
                         clear H
                         try go_wp2
                         replace HO_7 := Aside0.mk (Kd.R_drew HO_7.out)
                         replace BK260 := Aside0.mk (blk_drew BK260.out)
                         replace BK261 := Aside0.mk (blk_drew BK261.out)
                         replace BK265 := Aside0.mk (blk_drew BK265.out)
                         replace HB := Aside0.mk (below_drew1 HB.out)
                         have p278 : 0 ≤ (x15_6 : Int) := zp
                         have q278 : x15_6 < (x7_6.length : Int) := zp
                         obtain ⟨ad278, e278, hx278_0, hx278_1⟩ := at_T29 (Kd.R_reads' HO_7.out).2.2 x15_6 p278 q278
                         cases e278
                         replace p278 := eq_true p278
                         replace q278 := eq_true q278
                         have p279 : 0 ≤ ((ji63) : Int) := zp
                         have q279 : (ji63) < (x7_6.length : Int) := zp
                         obtain ⟨ad279, e279, hx279_0, hx279_1⟩ := at_T29 (Kd.R_reads' HO_7.out).2.2 (ji63) p279 q279
                         obtain rfl : ad278 = ad279 := (by injection e279)
                         replace p279 := eq_true p279
                         replace q279 := eq_true q279
                         refine start_ (n := 14) (S := fun w' => w'.cell? (ad278.add ((x15_6).toNat * 2)) = some (.int .i64 ((rd_T29 x7_6 x15_6).f0)) ∧ w'.cell? ⟨(ad278.add ((x15_6).toNat * 2)).block, (ad278.add ((x15_6).toNat * 2)).off + 1, none⟩ = some (.int .i64 ((rd_T29 x7_6 x15_6).f1)) ∧ w'.cell? (ad278.add (((ji63)).toNat * 2)) = some (.int .i64 ((rd_T29 x7_6 (ji63)).f0)) ∧ w'.cell? ⟨(ad278.add (((ji63)).toNat * 2)).block, (ad278.add (((ji63)).toNat * 2)).off + 1, none⟩ = some (.int .i64 ((rd_T29 x7_6 (ji63)).f1))) (ds := []) #[false, false, false, false, false, false, false, false, false, false, false, false, false, false] (by kernel_rfl) rfl rfl ⟨hx278_0, hx278_1, hx279_0, hx279_1⟩ (fun hHeld => ?_); refine with_tabW agonicref05_Courses.tab23 agonicref05_Courses.bits23 (fun HT_ HW_ => ?_)
                         generalize wr.drew = w75 at HO_7 BK260 BK261 BK265 HB hx278_0 hx278_1 hx279_0 hx279_1 hHeld ⊢
                         refine pq HT_ 0 96 14 1 ?_
                         refine pq HT_ 1 97 14 3 ?_
                         refine pq HT_ 2 98 14 7 ?_
                         refine pq HT_ 3 99 14 15 ?_
                         refine pq HT_ 4 100 14 31 ?_
                         refine pq HT_ 5 101 14 63 ?_
                         refine pq HT_ 7 103 14 191 ?_
                         refine pq HT_ 8 104 14 447 ?_
                         refine pq HT_ 9 105 14 959 ?_
                         refine pq HT_ 10 106 14 1983 ?_
                         refine take_ (i := 6) (N := some 102) (v := ?_) (a' := ?_) #[true, true, true, true, true, true, true, true, true, true, true, false, false, false] rfl rfl (take_ofW HT_.out HW_.out (by kernel_rfl)) (fun _ _ _ h => h) (Or.inl ⟨by rfl, ?_⟩) hHeld ?_ ?_
                         rotate_left
                         ·rintro w' ⟨s0, s1, s2, s3⟩
                          go_simp
                          with_reducible rfl
                         rotate_left
                         ·simp only [Act.put, List.setIfInBounds_toArray, List.set_cons_zero, List.set_cons_succ, i64_w, i32_w]
                          rfl
                         refine take_ (i := 11) (N := some 107) (v := ?_) (a' := ?_) #[true, true, true, true, true, true, true, true, true, true, true, true, false, false] rfl rfl (take_ofW HT_.out HW_.out (by kernel_rfl)) (fun _ _ _ h => h) (Or.inl ⟨by rfl, ?_⟩) hHeld ?_ ?_
                         rotate_left
                         ·rintro w' ⟨s0, s1, s2, s3⟩
                          go_simp
                          with_reducible rfl
                         rotate_left
                         ·simp only [Act.put, List.setIfInBounds_toArray, List.set_cons_zero, List.set_cons_succ, i64_w, i32_w]
                          rfl
                         refine one_ (i := 12) (N := some 108) #[true, true, true, true, true, true, true, true, true, true, true, true, true, false] rfl rfl (one_of HT_.out (by kernel_rfl)) (by decide) (fun K hK => ?_)
                         refine goes_ Try.func67 (by kernel_rfl) rfl #[.agg #[.int .i64 ((rd_T29 x7_6 x15_6).f0), .int .i64 ((rd_T29 x7_6 x15_6).f1)], .agg #[.int .i64 ((rd_T29 x7_6 (ji63)).f0), .int .i64 ((rd_T29 x7_6 (ji63)).f1)]] (by rfl) rfl rfl (by (try simp only [List.map_toArray, List.map_cons, List.map_nil]); first | done | (simp only [hji63]; rfl) | rfl | (simp only [List.length_drop, List.length_take]; rfl)) ?_
                         with_reducible refine (agonicref01_Less.calls ((rd_T29 x7_6 x15_6).f0) ((rd_T29 x7_6 x15_6).f1) ((rd_T29 x7_6 (ji63)).f0) ((rd_T29 x7_6 (ji63)).f1) false _ A66.out).mono ?_
                         rintro e w76 ⟨rfl, hb⟩
                         have HS0_ := (hb.cell (World.block_lt_of_cell? _ _ (hHeld.1))).trans (hHeld.1)
                         have HS1_ := (hb.cell (World.block_lt_of_cell? _ _ (hHeld.2.1))).trans (hHeld.2.1)
                         have HS2_ := (hb.cell (World.block_lt_of_cell? _ _ (hHeld.2.2.1))).trans (hHeld.2.2.1)
                         have HS3_ := (hb.cell (World.block_lt_of_cell? _ _ (hHeld.2.2.2))).trans (hHeld.2.2.2)
                         refine ⟨_, rfl, ?_⟩
                         replace HO_7 := zr HO_7 hb
                         replace BK260 := zk BK260 hb
                         replace BK261 := zk BK261 hb
                         replace HB := zd hb
                         (try clear hb)
                         (try clear hb2)
                         (try clear hk)
                         (try clear hi)
                         refine hK.out _ _ ⟨HS0_, HS1_, HS2_, HS3_⟩ (fun hHeld => ?_)
                         clear hK K
                         refine norm_ (a' := ?_) ?_ ?_
                         rotate_left
                         ·show Act.put _ (some 108) _ = _
                          simp only [Act.put, List.setIfInBounds_toArray, List.set_cons_zero, List.set_cons_succ, i64_w, i32_w]
                          rfl
                         refine pq HT_ 13 109 14 16383 ?_
                         refine done_ (done_of HT_.out (by kernel_rfl)) ?_
                         try go_wp2
                         (try simp only [← hl7_6])
                         go_roundg k6
                         case measure => have := HJ3.out; have := HJ6.out; have := HK3.out; have := HK4.out; have := HJ28.out; have := HK6.out; omega
                         case rel => exact ⟨(x7_6), (wrap64 (x11_4 + 1)), (by first | rfl | (simp; done) | (simp [*]; done)), H', ⟨by have := HJ3.out; have := HJ6.out; have := HK3.out; have := HK4.out; have := HJ28.out; have := HK6.out; omega⟩, ⟨by (try simp only [hl7_6]); refine zl ?_; exact Kd.R_mono HO_7.out (fun _ hk => trivial)⟩, ⟨by (try simp only [hl7_6]); refine zm ?_; exact BK260.out⟩, ⟨by (try simp only [hl7_6]); refine zm ?_; exact BK261.out⟩, ⟨zh⟩⟩
                       ·rw [if_neg c65] at H
                        exact absurd H (by simp)
                      ·rw [if_neg c64] at H
                       exact absurd H (by simp)
                     ·rw [if_neg c62] at H
                      exact absurd H (by simp)
                    ·rw [if_neg c61] at H
                     exact absurd H (by simp)
                   ·rw [if_neg c60] at H
                    have c60b0 : decide (0 < x15_6) = false := decide_eq_false c60
                    clear c60
                    have H' := Aside0.mk H
                    clear H
                    try go_wp2
                    replace HO_7 := Aside0.mk (Kd.R_drew HO_7.out)
                    replace BK260 := Aside0.mk (blk_drew BK260.out)
                    replace BK261 := Aside0.mk (blk_drew BK261.out)
                    replace BK265 := Aside0.mk (blk_drew BK265.out)
                    replace HB := Aside0.mk (below_drew1 HB.out)
                    refine start_ (n := 14) (S := fun w' => True) (ds := []) #[false, false, false, false, false, false, false, false, false, false, false, false, false, false] (by kernel_rfl) rfl rfl trivial (fun hHeld => ?_); refine with_tabW agonicref05_Courses.tab23 agonicref05_Courses.bits23 (fun HT_ HW_ => ?_)
                    generalize wr.drew = w77 at HO_7 BK260 BK261 BK265 HB hHeld ⊢
                    refine pq HT_ 0 96 14 1 ?_
                    refine pq HT_ 1 97 14 3 ?_
                    refine pq HT_ 2 98 14 7 ?_
                    refine pu (i := 3) (N := some 99) (zA 14 15) rfl rfl (any_of HT_.out (by kernel_rfl)) ?_
                    refine pu (i := 4) (N := some 100) (zA 14 31) rfl rfl (any_of HT_.out (by kernel_rfl)) ?_
                    refine pu (i := 5) (N := some 101) (zA 14 63) rfl rfl (any_of HT_.out (by kernel_rfl)) ?_
                    refine pu (i := 6) (N := some 102) (zA 14 127) rfl rfl (any_of HT_.out (by kernel_rfl)) ?_
                    refine pu (i := 7) (N := some 103) (zA 14 255) rfl rfl (any_of HT_.out (by kernel_rfl)) ?_
                    refine pu (i := 8) (N := some 104) (zA 14 511) rfl rfl (any_of HT_.out (by kernel_rfl)) ?_
                    refine pu (i := 9) (N := some 105) (zA 14 1023) rfl rfl (any_of HT_.out (by kernel_rfl)) ?_
                    refine pu (i := 10) (N := some 106) (zA 14 2047) rfl rfl (any_of HT_.out (by kernel_rfl)) ?_
                    refine pu (i := 11) (N := some 107) (zA 14 4095) rfl rfl (any_of HT_.out (by kernel_rfl)) ?_
                    refine pu (i := 12) (N := some 108) (zA 14 8191) rfl rfl (any_of HT_.out (by kernel_rfl)) ?_
                    refine pq HT_ 13 109 14 16383 ?_
                    refine done_ (done_of HT_.out (by kernel_rfl)) ?_
                    try go_wp2
                    (try simp only [← hl7_6])
                    go_roundg k6
                    case measure => have := HJ3.out; have := HJ6.out; have := HK3.out; have := HK4.out; have := HJ28.out; have := HK6.out; omega
                    case rel => exact ⟨(x7_6), (wrap64 (x11_4 + 1)), (by first | rfl | (simp; done) | (simp [*]; done)), H', ⟨by have := HJ3.out; have := HJ6.out; have := HK3.out; have := HK4.out; have := HJ28.out; have := HK6.out; omega⟩, ⟨by (try simp only [hl7_6]); refine zl ?_; exact Kd.R_mono HO_7.out (fun _ hk => trivial)⟩, ⟨by (try simp only [hl7_6]); refine zm ?_; exact BK260.out⟩, ⟨by (try simp only [hl7_6]); refine zm ?_; exact BK261.out⟩, ⟨zh⟩⟩
                ·rw [if_neg c53] at H
                 exact absurd H (by simp)
           ·rw [if_neg c18] at H
            have c18b0 : decide (x11_4 ≤ 2) = false := decide_eq_false c18
            clear c18
            have H' := Aside0.mk H
            clear H
            go_wp2
            go_roundg k4
            case measure => have := HJ3.out; have := HJ6.out; have := HK3.out; have := HK4.out; omega
            case rel => exact ⟨(x7_4), (wrap64 (x8_3 + 1)), (by first | rfl | (simp; done) | (simp [*]; done)), H', ⟨by have := HJ3.out; have := HJ6.out; have := HK3.out; have := HK4.out; omega⟩, ⟨by refine zl ?_; exact HO_7.out⟩, ⟨zh⟩⟩
        ·rw [if_neg c10] at H
         have c10b0 : decide (x8_3 < (l0.length : Int)) = false := decide_eq_false c10
         clear c10
         simp only [Option.some.injEq, Prod.mk.injEq] at H
         obtain ⟨rfl, rfl⟩ := H
         go_wp2
         go_ret2
         exact ⟨_, ze, by refine zl ?_; exact HO_7.out, zh⟩
     ·rw [if_neg c9] at H
      have c9b0 : (x6_6 == 0) = false := beq_eq_false_iff_ne.mpr c9
      have c9b1 : (x6_6 != 0) = true := bne_iff_ne.mpr c9
      simp only [Option.some.injEq, Prod.mk.injEq] at H
      obtain ⟨rfl, rfl⟩ := H
      go_wp2
      go_ret2
      exact ⟨_, ze, by first | exact Kd.R_nil _ _ _ _ _ | exact Kd.N_nil _ _ _ _ _ | exact Kd.V_nil _ _ _ _ _ | exact Kd.Q_nil _ _ _ _ _ | exact Kd.S_nil _ _ _ _ _, zh⟩
end Go.Proofs.Ytccjefoejjnccaa.C
