-- Written by a program of this session (wip/tools/myprint.py, over the kit's print).
import Derived.Test.YtccjefoejjnccaaH6
import Derived.Test.YtccjefoejjnccaaH7
import Derived.Test.YtccjefoejjnccaaH11
import Derived.Test.YtccjefoejjnccaaC6
import Derived.Test.YtccjefoejjnccaaZ
namespace Go.Proofs.Ytccjefoejjnccaa.C
open Go.Proofs.Ytccjefoejjnccaa.H Go.Proofs.YtccjefoejjnccaaH Go.RowKit Go.Proofs.YtccjefoejjnccaaW.PrintWords Go.Proofs.YtccjefoejjnccaaW.PrintLast Go.Proofs.YtccjefoejjnccaaW.PrintMore
attribute [local go_sem] max2_int min2_int max_two min_two max_three min_three max_four min_four   -- for this text's walks alone
set_option linter.unusedVariables false
set_option linter.unusedSimpArgs false
attribute [local go_sem high] eqA29
theorem lit2 {W : World} {A1 : Option Addr} {c1 : Nat} {l1 : List S55} {A2 : Option Addr} {c2 : Nat} {l2 : List S55} (h1 : Kd.C k55 W A1 l1.length l1) (hc1 : l1.length ≤ c1) (h2 : Kd.C k55 W A2 l2.length l2) (hc2 : l2.length ≤ c2) :
    Kd.C (Kd.slice 55 k55) (W.alloc (.cells #[.slice A1 l1.length c1, .slice A2 l2.length c2] 23)) (some ⟨W.heap.size, 0, none⟩) [l1, l2].length [l1, l2] := by
  have hb := Box2.new W 23 (.slice A1 l1.length c1) (.slice A2 l2.length c2)
  have hB : Below W.heap.size W (W.alloc (.cells #[.slice A1 l1.length c1, .slice A2 l2.length c2] 23)) := (Below.refl _ W).alloc (Nat.le_refl _) _
  refine ⟨rfl, (by simp), fun _ => ⟨_, rfl, fun j x hx => ?_⟩⟩
  match j, hx with
  | 0, hx =>
    obtain rfl : l1 = x := by simpa using hx
    refine ⟨[.slice A1 l1.length c1], rfl, ⟨A1, c1, rfl, hc1, Kd.C_below h1 hB⟩, fun i u hu => ?_⟩
    match i, hu with
    | 0, hu => obtain rfl : Value.slice A1 l1.length c1 = u := by simpa using hu
               exact hb.cell0
    | i + 1, hu => simp at hu
  | 1, hx =>
    obtain rfl : l2 = x := by simpa using hx
    refine ⟨[.slice A2 l2.length c2], rfl, ⟨A2, c2, rfl, hc2, Kd.C_below h2 hB⟩, fun i u hu => ?_⟩
    match i, hu with
    | 0, hu => obtain rfl : Value.slice A2 l2.length c2 = u := by simpa using hu
               exact hb.cell1
    | i + 1, hu => simp at hu
  | j + 2, hx => simp at hx
def card_Follow2.f (k : Nat) (l0 l1 : List S55) (a2 : Int) : Option (Int × Int × Int) := card_Follow.f k [l0, l1] a2
theorem card_Follow2.calls (k : Nat) (A1 : Option Addr) (c1 : Nat) (l1 : List S55) (A2 : Option Addr) (c2 : Nat) (l2 : List S55) (a2 r1 r2 r3 : Int) (W : World) (h1 : Kd.C k55 W A1 l1.length l1) (hc1 : l1.length ≤ c1) (h2 : Kd.C k55 W A2 l2.length l2) (hc2 : l2.length ≤ c2) (h : card_Follow2.f k l1 l2 a2 = some (r1, r2, r3)) :
  Calls Try.prog 30 #[.slice (some ⟨W.heap.size, 0, none⟩) 2 2, .int .i64 a2] (W.alloc (.cells #[.slice A1 l1.length c1, .slice A2 l2.length c2] 23)) fun e w' => e = .returned (.tuple #[.agg #[.int .i64 r1, .int .i64 r2], .int .i64 r3]) ∧ Below (W.alloc (.cells #[.slice A1 l1.length c1, .slice A2 l2.length c2] 23)).heap.size (W.alloc (.cells #[.slice A1 l1.length c1, .slice A2 l2.length c2] 23)) w' :=
 card_Follow.calls k (some ⟨W.heap.size, 0, none⟩) 2 [l1, l2] a2 r1 r2 r3 _ (lit2 h1 hc1 h2 hc2) (Nat.le_refl _) h
def agoniclaw05_worksAll.j0 : Nat → List (S29) → List (S29) → List Int → List (S55) → Bool → Int → Int → Int → Int → Option (Bool)
 | 0, _, _, _, _, _, _, _, _, _ => none
 | k + 1, x3, x5, x7, x9, x72, x285000, x285001, x320000, x320001 => if x72 = true then (some false) else ((agoniclaw05_A.f k).bind fun t324 => ((card_Follow2.f k t324 x9 450).bind fun bt327 => ((agoniclaw05_C.f k).bind fun t331 => ((card_Within.f k t331 990).bind fun bt334 => (if bt327.2.2 = 0 then (if bt334.2.2.2.2 = 0 then ((agoniclaw05_part.f (-1) 10).bind fun bt341 => (if (x285000 == bt341.1 && (x285001 == bt341.2)) = true then ((agoniclaw05_part.f 8200 9).bind fun bt343 => ((agoniclaw05_ratios.f k x3 (([(⟨bt343.1, bt343.2⟩ : S29)] : List (S29)))).bind fun t348 => (if t348 = true then ((agoniclaw05_part.f 50 1).bind fun bt349 => ((agoniclaw05_part.f 5450 37).bind fun bt351 => ((agoniclaw05_part.f 131450 37).bind fun bt353 => ((agoniclaw05_ratios.f k x5 (([(⟨bt349.1, bt349.2⟩ : S29), (⟨bt351.1, bt351.2⟩ : S29), (⟨bt353.1, bt353.2⟩ : S29)] : List (S29)))).bind fun t358 => (if t358 = true then ((agoniclaw05_numbers.f k x7 (([0] : List Int))).bind fun t362 => (if t362 = true then ((agoniclaw05_cards.f k (([0, 0, 990, (-90), 1800, 0, 2610, 90] : List Int))).bind fun t366 => ((agoniclaw05_points.f k x9 t366).bind fun t369 => (if t369 = true then ((agoniclaw05_part.f 800 9).bind fun bt370 => (if (x320000 == bt370.1 && (x320001 == bt370.2)) = true then ((agoniclaw05_part.f 0 1).bind fun bt372 => (if (bt327.1 == bt372.1 && (bt327.2.1 == bt372.2)) = true then ((agoniclaw05_part.f 3240 41).bind fun bt374 => (if (bt334.1 == bt374.1 && (bt334.2.1 == bt374.2)) = true then ((agoniclaw05_part.f 99 1).bind fun bt376 => (some (bt334.2.2.1 == bt376.1 && (bt334.2.2.2.1 == bt376.2)))) else (none))) else (none))) else (none))) else (none)))) else (none))) else (none)))))) else (none)))) else (none))) else (none)) else (none))))))
def agoniclaw05_worksAll.f (k : Nat)  : Option (Bool) := (agoniclaw05_A.f k).bind fun t278 => ((card_Deviation.f k t278 3599).bind fun bt281 => ((agoniclaw05_A.f k).bind fun t285 => ((card_Courses.f k t285 1000).bind fun bt288 => ((agoniclaw05_B.f k).bind fun t292 => ((card_Courses.f k t292 3550).bind fun bt295 => ((agoniclaw05_B.f k).bind fun t299 => ((card_Folds.f k t299).bind fun bt302 => ((agoniclaw05_A.f k).bind fun t306 => ((card_Inverse.f k t306).bind fun bt309 => ((agoniclaw05_A.f k).bind fun t313 => ((card_Allowance.f k t313 1000).bind fun bt316 => (if bt281.2.2 = 0 then (if bt288.2 = 0 then (if bt295.2 = 0 then (if bt302.2 = 0 then (if bt309.2 = 0 then (if bt316.2.2 = 0 then ((agoniclaw05_C.f k).bind fun t320 => ((card_Sure.f k t320).bind fun t323 => (agoniclaw05_worksAll.j0 k bt288.1 bt295.1 bt302.1 bt309.1 (t323 != 0) bt281.1 bt281.2.1 bt316.1 bt316.2.1))) else (none)) else (none)) else (none)) else (none)) else (none)) else (none)))))))))))))
def agoniclaw05_worksAll.T11 : Bool × List (List Nat × List Nat) := (true, [([], []), ([0], [0]), ([1], [1]), ([2], [2]), ([3, 2], [2, 3]), ([2, 4], [2, 4]), ([5, 2], [5]), ([6], [6]), ([6, 6], [6]), ([7, 8, 6], [6, 7, 8]), ([6, 9], [6, 9]), ([10, 8], [10]), ([11], [11]), ([11, 11], [11]), ([13, 11], [11, 13]), ([12, 14, 13, 11], [11, 12, 14]), ([11, 15], [11, 15]), ([16, 15], [16]), ([17], [17]), ([17, 17], [17]), ([19, 17], [17]), ([20, 17], [17]), ([19, 20, 21, 17], [17, 19, 20, 21]), ([18, 22, 21, 17], [17, 18, 22]), ([17, 23], [17, 23]), ([24, 23], [24]), ([25], [25]), ([25], [25]), ([26, 27, 25, 25], [25, 26, 27]), ([25, 28], [25, 28]), ([29, 28], [29]), ([30], [30]), ([30], [30]), ([32, 30, 30], [30, 32]), ([31, 33, 33, 30], [30, 31, 33]), ([30, 34], [30, 34]), ([35, 34], [35]), ([36], [36]), ([36, 36], [36]), ([37, 38, 36], [36, 37, 38]), ([36, 39], [36, 39]), ([40, 38], [40]), ([41], [41]), ([41, 41], [41]), ([42, 43, 41], [41, 42, 43]), ([41, 44], [41, 44]), ([45, 43], [45]), ([46], [46]), ([46, 46], [46]), ([47, 48, 46], [46, 47, 48]), ([46, 49], [46, 49]), ([50, 48], [50]), ([51], [51]), ([51, 51], [51]), ([52, 53, 51], [51, 52, 53]), ([51, 54], [51, 54]), ([55, 53, 0, 1, 2, 3, 4, 5, 6, 7, 8, 9, 10, 11, 12, 13, 14, 15, 16, 17, 18, 19, 20, 21, 22, 23, 24, 25, 26, 27, 28, 29, 30, 31, 32, 33, 34, 35, 36, 37, 38, 39, 40, 41, 42, 43, 44, 45, 46, 47, 48, 49, 50, 51, 52, 53, 54, 55], [55])])
def agoniclaw05_worksAll.B11 : List Nat := [0, 1, 3, 7, 15, 31, 63, 127, 127, 511, 1023, 2047, 4095, 4095, 12287, 32767, 65535, 131071, 262143, 262143, 786431, 1835007, 3932159, 8388607, 16777215, 33554431, 67108863, 67108863, 268435455, 536870911, 1073741823, 2147483647, 2147483647, 6442450943, 17179869183, 34359738367, 68719476735, 137438953471, 137438953471, 549755813887, 1099511627775, 2199023255551, 4398046511103, 4398046511103, 17592186044415, 35184372088831, 70368744177663, 140737488355327, 140737488355327, 562949953421311, 1125899906842623, 2251799813685247, 4503599627370495, 4503599627370495, 18014398509481983, 36028797018963967, 72057594037927935]
theorem agoniclaw05_worksAll.tab11 : rtab .any (opsOf Try.f14 11) = agoniclaw05_worksAll.T11 := by kernel_rfl
theorem agoniclaw05_worksAll.bits11 : waitsOk agoniclaw05_worksAll.T11.2 agoniclaw05_worksAll.B11 = true := by kernel_rfl
set_option maxHeartbeats 8000000 in
set_option maxRecDepth 100000 in
theorem agoniclaw05_worksAll.calls (k : Nat)  (r : Bool) (w : World) (h : agoniclaw05_worksAll.f k  = some r) :
  Calls Try.prog 14 #[] w fun e w' => e = .returned (.bool r) ∧ Below w.heap.size w w' := by
 have hu29 := Try.underlying29
 have HB := Aside0.mk (Below.refl w.heap.size w)
 have H : ((agoniclaw05_A.f k).bind fun t278 => ((card_Deviation.f k t278 3599).bind fun bt281 => ((agoniclaw05_A.f k).bind fun t285 => ((card_Courses.f k t285 1000).bind fun bt288 => ((agoniclaw05_B.f k).bind fun t292 => ((card_Courses.f k t292 3550).bind fun bt295 => ((agoniclaw05_B.f k).bind fun t299 => ((card_Folds.f k t299).bind fun bt302 => ((agoniclaw05_A.f k).bind fun t306 => ((card_Inverse.f k t306).bind fun bt309 => ((agoniclaw05_A.f k).bind fun t313 => ((card_Allowance.f k t313 1000).bind fun bt316 => (if bt281.2.2 = 0 then (if bt288.2 = 0 then (if bt295.2 = 0 then (if bt302.2 = 0 then (if bt309.2 = 0 then (if bt316.2.2 = 0 then ((agoniclaw05_C.f k).bind fun t320 => ((card_Sure.f k t320).bind fun t323 => (agoniclaw05_worksAll.j0 k bt288.1 bt295.1 bt302.1 bt309.1 (t323 != 0) bt281.1 bt281.2.1 bt316.1 bt316.2.1))) else (none)) else (none)) else (none)) else (none)) else (none)) else (none)))))))))))))) = some r := h
 clear h
 replace H := zi H
 obtain ⟨t278, A10, H⟩ := H
 try dsimp only at H
 have A1 := Aside0.mk A10
 clear A10
 replace H := zi H
 obtain ⟨⟨t281, t282, t283⟩, A20, H⟩ := H
 try dsimp only at H
 have A2 := Aside0.mk A20
 clear A20
 replace H := zi H
 obtain ⟨t285, A30, H⟩ := H
 try dsimp only at H
 have A3 := Aside0.mk A30
 clear A30
 replace H := zi H
 obtain ⟨⟨t288, t289⟩, A40, H⟩ := H
 try dsimp only at H
 have A4 := Aside0.mk A40
 clear A40
 replace H := zi H
 obtain ⟨t292, A50, H⟩ := H
 try dsimp only at H
 have A5 := Aside0.mk A50
 clear A50
 replace H := zi H
 obtain ⟨⟨t295, t296⟩, A60, H⟩ := H
 try dsimp only at H
 have A6 := Aside0.mk A60
 clear A60
 replace H := zi H
 obtain ⟨t299, A70, H⟩ := H
 try dsimp only at H
 have A7 := Aside0.mk A70
 clear A70
 replace H := zi H
 obtain ⟨⟨t302, t303⟩, A80, H⟩ := H
 try dsimp only at H
 have A8 := Aside0.mk A80
 clear A80
 replace H := zi H
 obtain ⟨t306, A90, H⟩ := H
 try dsimp only at H
 have A9 := Aside0.mk A90
 clear A90
 replace H := zi H
 obtain ⟨⟨t309, t310⟩, A100, H⟩ := H
 try dsimp only at H
 have A10 := Aside0.mk A100
 clear A100
 replace H := zi H
 obtain ⟨t313, A110, H⟩ := H
 try dsimp only at H
 have A11 := Aside0.mk A110
 clear A110
 replace H := zi H
 obtain ⟨⟨t316, t317, t318⟩, A120, H⟩ := H
 try dsimp only at H
 have A12 := Aside0.mk A120
 clear A120
 have HC13 := Aside0.mk H
 clear H
 go_enter Try.func14, Try.ntmps14
 go_upto_region 7 with (first | ((with_reducible refine gC 48 rfl ?_); refine gL 17 Try.func48 #[] ?_; (with_reducible refine (agoniclaw05_A.calls k  t278 _ A1.out).mono ?_); rintro e w14 ⟨v279, rfl, ho0, hb⟩; refine ⟨_, rfl, ?_⟩; have HO280 := Aside0.mk (Kd.R_lower ho0 (below_size zh)); replace HB := zd hb; (try clear hb); (try clear ho0); obtain ⟨Ao15, co15, eo15⟩ := Kd.R_slice HO280.out; subst eo15) | ((with_reducible refine gC 16 rfl ?_); refine gL 18 Try.func16 #[.slice Ao15 t278.length co15, .int .i64 3599] ?_; (with_reducible refine (card_Deviation.calls k _ _ t278 3599 t281 t282 t283 _ ?side1 ?side2 A2.out).mono ?_); (case side1 => exact zc (Kd.R_reads' HO280.out).2.2); (case side2 => exact (Kd.R_reads' HO280.out).2.1); rintro e w16 ⟨rfl, hb⟩; refine ⟨_, rfl, ?_⟩; replace HO280 := zr HO280 hb; replace HB := zd hb; (try clear hb)) | ((with_reducible refine gD 1 rfl ?_); (try (refine gate_guard (by rfl) ?_; dsimp only)); refine zx 1 #[.int .i64 0, .int .i64 0] 29 ?_; intro gb284 hg w17 hbox hb; replace HO280 := zr HO280 hb; have BK284 := Aside0.mk (hbox); have GE284 := zG w hg; replace HB := zd hb; clear hb hbox hg; have hcz18_0 : w17.cell? ⟨gb284, 0, none⟩ = some (.int .i64 0) := zy BK284 0; have hcz18_1 : w17.cell? ⟨gb284, 1, none⟩ = some (.int .i64 0) := zy BK284 1; have hfz18_0 := blk_frozen BK284.out 0; have hfz18_1 := blk_frozen BK284.out 1) | ((with_reducible refine gC 48 rfl ?_); refine gL 22 Try.func48 #[] ?_; (with_reducible refine (agoniclaw05_A.calls k  t285 _ A3.out).mono ?_); rintro e w19 ⟨v286, rfl, ho0, hb⟩; refine ⟨_, rfl, ?_⟩; have HO287 := Aside0.mk (Kd.R_lower (Kd.R_new' ho0 (Kd.R_lt (by refine zl ?_; exact (Kd.R_mono (Kd.R_far (p := ⟨gb284, 1, none⟩) (Kd.R_far (p := ⟨gb284, 0, none⟩) (Kd.R_types HO280.out BK284.out (by decide)) (fun _ hk => hk.2) (.int .i64 t281)) (fun _ hk => hk.2) (.int .i64 t282)) (fun _ h_ => h_.1))))) (below_size zh)); replace HO280 := Aside0.mk (Kd.R_elder' (by refine zl ?_; exact (Kd.R_mono (Kd.R_far (p := ⟨gb284, 1, none⟩) (Kd.R_far (p := ⟨gb284, 0, none⟩) (Kd.R_types HO280.out BK284.out (by decide)) (fun _ hk => hk.2) (.int .i64 t281)) (fun _ hk => hk.2) (.int .i64 t282)) (fun _ h_ => h_.1))) (Kd.R_base ho0) hb); replace BK284 := Aside0.mk (blk_below (g := gb284) (o := .cells #[.int .i64 t281, .int .i64 t282] 29 (0, 0)) (by refine zm ?_; refine blk_put (cs := #[.int .i64 t281, .int .i64 0]) ?_ 1 _ rfl; refine zm ?_; refine blk_put (cs := #[.int .i64 0, .int .i64 0]) ?_ 0 _ rfl; refine zm ?_; exact BK284.out) hb); replace HB := zd hb; (try clear hb); (try clear hk); (try clear ho0); obtain ⟨Ao20, co20, eo20⟩ := Kd.R_slice HO287.out; subst eo20) | ((with_reducible refine gC 23 rfl ?_); refine gL 23 Try.func23 #[.slice Ao20 t285.length co20, .int .i64 1000] ?_; (with_reducible refine (card_Courses.calls k _ _ t285 1000 t288 t289 _ ?side1 ?side2 A4.out).mono ?_); (case side1 => exact zc (Kd.R_reads' HO287.out).2.2); (case side2 => exact (Kd.R_reads' HO287.out).2.1); rintro e w21 ⟨v290, rfl, ho0, hb⟩; refine ⟨_, rfl, ?_⟩; replace HO280 := zr HO280 hb; replace HO287 := zr HO287 hb; have HO291 := Aside0.mk (Kd.R_lower (Kd.R_newB ho0 (g := gb284) (o := .cells #[.int .i64 t281, .int .i64 t282] 29 (0, 0)) (zb BK284)) (below_size zh)); replace BK284 := zk BK284 hb; replace HB := zd hb; (try clear hb); (try clear ho0)) | ((with_reducible refine gC 49 rfl ?_); refine gL 27 Try.func49 #[] ?_; (with_reducible refine (agoniclaw05_B.calls k  t292 _ A5.out).mono ?_); rintro e w22 ⟨v293, rfl, ho0, hb⟩; refine ⟨_, rfl, ?_⟩; replace HO291 := zr HO291 hb; have HO294 := Aside0.mk (Kd.R_lower (Kd.R_new' (Kd.R_new' ho0 (Kd.R_lt (zo HO280.out))) (Kd.R_lt (zo HO287.out))) (below_size zh)); replace HO280 := Aside0.mk (Kd.R_elder' (zo HO280.out) (Kd.R_base ho0) hb); replace HO287 := Aside0.mk (Kd.R_elder' (zo HO287.out) (Kd.R_base ho0) hb); replace BK284 := zk BK284 hb; replace HB := zd hb; (try clear hb); (try clear ho0); obtain ⟨Ao23, co23, eo23⟩ := Kd.R_slice HO294.out; subst eo23) | ((with_reducible refine gC 23 rfl ?_); refine gL 28 Try.func23 #[.slice Ao23 t292.length co23, .int .i64 3550] ?_; (with_reducible refine (card_Courses.calls k _ _ t292 3550 t295 t296 _ ?side1 ?side2 A6.out).mono ?_); (case side1 => exact zc (Kd.R_reads' HO294.out).2.2); (case side2 => exact (Kd.R_reads' HO294.out).2.1); rintro e w24 ⟨v297, rfl, ho0, hb⟩; refine ⟨_, rfl, ?_⟩; replace HO280 := zr HO280 hb; replace HO287 := zr HO287 hb; replace HO294 := zr HO294 hb; have HO298 := Aside0.mk (Kd.R_lower (Kd.R_newB (Kd.R_new' ho0 (Kd.R_lt (zo HO291.out))) (g := gb284) (o := .cells #[.int .i64 t281, .int .i64 t282] 29 (0, 0)) (zb BK284)) (below_size zh)); replace HO291 := Aside0.mk (Kd.R_elder' (zo HO291.out) (Kd.R_base ho0) hb); replace BK284 := zk BK284 hb; replace HB := zd hb; (try clear hb); (try clear ho0)) | ((with_reducible refine gC 49 rfl ?_); refine gL 32 Try.func49 #[] ?_; (with_reducible refine (agoniclaw05_B.calls k  t299 _ A7.out).mono ?_); rintro e w25 ⟨v300, rfl, ho0, hb⟩; refine ⟨_, rfl, ?_⟩; replace HO291 := zr HO291 hb; replace HO298 := zr HO298 hb; have HO301 := Aside0.mk (Kd.R_lower (Kd.R_new' (Kd.R_new' (Kd.R_new' ho0 (Kd.R_lt (zo HO280.out))) (Kd.R_lt (zo HO287.out))) (Kd.R_lt (zo HO294.out))) (below_size zh)); replace HO280 := Aside0.mk (Kd.R_elder' (zo HO280.out) (Kd.R_base ho0) hb); replace HO287 := Aside0.mk (Kd.R_elder' (zo HO287.out) (Kd.R_base ho0) hb); replace HO294 := Aside0.mk (Kd.R_elder' (zo HO294.out) (Kd.R_base ho0) hb); replace BK284 := zk BK284 hb; replace HB := zd hb; (try clear hb); (try clear ho0); obtain ⟨Ao26, co26, eo26⟩ := Kd.R_slice HO301.out; subst eo26) | ((with_reducible refine gC 18 rfl ?_); refine gL 33 Try.func18 #[.slice Ao26 t299.length co26] ?_; (with_reducible refine (card_Folds.calls k _ _ t299 t302 t303 _ ?side1 ?side2 A8.out).mono ?_); (case side1 => exact zc (Kd.R_reads' HO301.out).2.2); (case side2 => exact (Kd.R_reads' HO301.out).2.1); rintro e w27 ⟨v304, rfl, ho0, hb⟩; refine ⟨_, rfl, ?_⟩; replace HO280 := zr HO280 hb; replace HO287 := zr HO287 hb; replace HO291 := zr HO291 hb; replace HO294 := zr HO294 hb; replace HO298 := zr HO298 hb; replace HO301 := zr HO301 hb; have HO305 := Aside0.mk (Kd.R_lower ho0 (below_size zh)); replace BK284 := zk BK284 hb; replace HB := zd hb; (try clear hb); (try clear ho0)) | ((with_reducible refine gC 48 rfl ?_); refine gL 37 Try.func48 #[] ?_; (with_reducible refine (agoniclaw05_A.calls k  t306 _ A9.out).mono ?_); rintro e w28 ⟨v307, rfl, ho0, hb⟩; refine ⟨_, rfl, ?_⟩; replace HO291 := zr HO291 hb; replace HO298 := zr HO298 hb; replace HO305 := zr HO305 hb; have HO308 := Aside0.mk (Kd.R_lower (Kd.R_new' (Kd.R_new' (Kd.R_new' (Kd.R_new' ho0 (Kd.R_lt (zo HO280.out))) (Kd.R_lt (zo HO287.out))) (Kd.R_lt (zo HO294.out))) (Kd.R_lt (zo HO301.out))) (below_size zh)); replace HO280 := Aside0.mk (Kd.R_elder' (zo HO280.out) (Kd.R_base ho0) hb); replace HO287 := Aside0.mk (Kd.R_elder' (zo HO287.out) (Kd.R_base ho0) hb); replace HO294 := Aside0.mk (Kd.R_elder' (zo HO294.out) (Kd.R_base ho0) hb); replace HO301 := Aside0.mk (Kd.R_elder' (zo HO301.out) (Kd.R_base ho0) hb); replace BK284 := zk BK284 hb; replace HB := zd hb; (try clear hb); (try clear ho0); obtain ⟨Ao29, co29, eo29⟩ := Kd.R_slice HO308.out; subst eo29) | ((with_reducible refine gC 28 rfl ?_); refine gL 38 Try.func28 #[.slice Ao29 t306.length co29] ?_; (with_reducible refine (card_Inverse.calls k _ _ t306 t309 t310 _ ?side1 ?side2 A10.out).mono ?_); (case side1 => exact zc (Kd.R_reads' HO308.out).2.2); (case side2 => exact (Kd.R_reads' HO308.out).2.1); rintro e w30 ⟨v311, rfl, ho0, hb⟩; refine ⟨_, rfl, ?_⟩; replace HO291 := zr HO291 hb; replace HO298 := zr HO298 hb; replace HO305 := zr HO305 hb; have HO312 := Aside0.mk (Kd.R_lower (Kd.R_new' (Kd.R_new' (Kd.R_new' (Kd.R_new' (Kd.R_new' ho0 (Kd.R_lt (zo HO280.out))) (Kd.R_lt (zo HO287.out))) (Kd.R_lt (zo HO294.out))) (Kd.R_lt (zo HO301.out))) (Kd.R_lt (zo HO308.out))) (below_size zh)); replace HO280 := Aside0.mk (Kd.R_elder' (zo HO280.out) (Kd.R_base ho0) hb); replace HO287 := Aside0.mk (Kd.R_elder' (zo HO287.out) (Kd.R_base ho0) hb); replace HO294 := Aside0.mk (Kd.R_elder' (zo HO294.out) (Kd.R_base ho0) hb); replace HO301 := Aside0.mk (Kd.R_elder' (zo HO301.out) (Kd.R_base ho0) hb); replace HO308 := Aside0.mk (Kd.R_elder' (zo HO308.out) (Kd.R_base ho0) hb); replace BK284 := zk BK284 hb; replace HB := zd hb; (try clear hb); (try clear ho0)) | ((with_reducible refine gC 48 rfl ?_); refine gL 42 Try.func48 #[] ?_; (with_reducible refine (agoniclaw05_A.calls k  t313 _ A11.out).mono ?_); rintro e w31 ⟨v314, rfl, ho0, hb⟩; refine ⟨_, rfl, ?_⟩; replace HO291 := zr HO291 hb; replace HO298 := zr HO298 hb; replace HO305 := zr HO305 hb; have HO315 := Aside0.mk (Kd.R_lower (Kd.R_new' (Kd.R_new' (Kd.R_new' (Kd.R_new' (Kd.R_new' (Kd.R_new' ho0 (Kd.R_lt (zo HO280.out))) (Kd.R_lt (zo HO287.out))) (Kd.R_lt (zo HO294.out))) (Kd.R_lt (zo HO301.out))) (Kd.R_lt (zo HO308.out))) (Kd.R_lt (zo HO312.out))) (below_size zh)); replace HO312 := Aside0.mk (Kd.R_elder' (zo HO312.out) (Kd.R_base ho0) hb); replace BK284 := zk BK284 hb; replace HB := zd hb; (try clear hb); (try clear ho0); obtain ⟨Ao32, co32, eo32⟩ := Kd.R_slice HO315.out; subst eo32) | ((with_reducible refine gC 25 rfl ?_); refine gL 43 Try.func25 #[.slice Ao32 t313.length co32, .int .i64 1000] ?_; (with_reducible refine (card_Allowance.calls k _ _ t313 1000 t316 t317 t318 _ ?side1 ?side2 A12.out).mono ?_); (case side1 => exact zc (Kd.R_reads' HO315.out).2.2); (case side2 => exact (Kd.R_reads' HO315.out).2.1); rintro e w33 ⟨rfl, hb⟩; refine ⟨_, rfl, ?_⟩; replace HO291 := zr HO291 hb; replace HO298 := zr HO298 hb; replace HO305 := zr HO305 hb; replace HO312 := zr HO312 hb; replace BK284 := zk BK284 hb; replace HB := zd hb; (try clear hb)) | ((with_reducible refine gD 11 rfl ?_); (try (refine gate_guard (by rfl) ?_; dsimp only)); refine zx 11 #[.int .i64 0, .int .i64 0] 29 ?_; intro gb319 hg w34 hbox hb; replace HO291 := Aside0.mk (Kd.R_below (Kd.R_elderB (zo HO291.out) gb319 (Nat.le_of_eq hg.symm)) hb); replace HO298 := Aside0.mk (Kd.R_below (Kd.R_elderB (zo HO298.out) gb319 (Nat.le_of_eq hg.symm)) hb); replace HO305 := zr HO305 hb; replace HO312 := zr HO312 hb; have BK319 := Aside0.mk (hbox); have GE319 := zG w hg; replace HB := zd hb; have NB284_319 := zN BK284 hg; have NB319_284 := zM BK284 hg; replace BK284 := zk BK284 hb; clear hb hbox hg; have hnb35 := NB319_284.out; have hnc35 := NB284_319.out; have hcz36_0 : w34.cell? ⟨gb319, 0, none⟩ = some (.int .i64 0) := zy BK319 0; have hcz36_1 : w34.cell? ⟨gb319, 1, none⟩ = some (.int .i64 0) := zy BK319 1; have hfz36_0 := blk_frozen BK319.out 0; have hfz36_1 := blk_frozen BK319.out 1))
 (try simp only [Act.put, List.setIfInBounds_toArray, List.set_cons_zero, List.set_cons_succ])
 go_cut [72] (fun v72 wc => ∃ (kq : Nat) (x72_12 : Bool), v72 = .bool x72_12 ∧ Aside0 (agoniclaw05_worksAll.j0 kq t288 t295 t302 t309 x72_12 t281 t282 t316 t317 = some r) ∧ Aside0 (kq ≤ k) ∧ Aside0 (Kd.R k29 29 wc w.heap.size (fun k_ => some k_ ≠ (v297 : Value).ownBlock ∧ k_ ≠ gb284 ∧ k_ ≠ gb319) v290 t288) ∧ Aside0 (Kd.R k29 29 wc w.heap.size (fun k_ => some k_ ≠ (v290 : Value).ownBlock ∧ k_ ≠ gb284 ∧ k_ ≠ gb319) v297 t295) ∧ Aside0 (Kd.R (Kd.int .i64) 3 wc w.heap.size (fun _ => True) v304 t302) ∧ Aside0 (Kd.R k55 55 wc w.heap.size (fun _ => True) v311 t309) ∧ Aside0 (wc.heap[gb284]? = some (.cells #[.int .i64 t281, .int .i64 t282] 29 (0, 0))) ∧ Aside0 (wc.heap[gb319]? = some (.cells #[.int .i64 t316, .int .i64 t317] 29 (0, 0))) ∧ Aside0 (Below w.heap.size w wc))
 case first =>
  have H := HC13.out
  clear HC13
  by_cases c37 : t283 = 0
  ·rw [if_pos c37] at H
   have c37b0 : (t283 == 0) = true := beq_iff_eq.mpr c37
   have c37b1 : (t283 != 0) = false := bne_eq_false_iff_eq.mpr c37
   clear c37
   (first | rw [c37b0] | (simp only [i64_w, i32_w]; rw [c37b0]) | skip)
   by_cases c38 : t289 = 0
   ·rw [if_pos c38] at H
    have c38b0 : (t289 == 0) = true := beq_iff_eq.mpr c38
    have c38b1 : (t289 != 0) = false := bne_eq_false_iff_eq.mpr c38
    clear c38
    by_cases c39 : t296 = 0
    ·rw [if_pos c39] at H
     have c39b0 : (t296 == 0) = true := beq_iff_eq.mpr c39
     have c39b1 : (t296 != 0) = false := bne_eq_false_iff_eq.mpr c39
     clear c39
     by_cases c40 : t303 = 0
     ·rw [if_pos c40] at H
      have c40b0 : (t303 == 0) = true := beq_iff_eq.mpr c40
      have c40b1 : (t303 != 0) = false := bne_eq_false_iff_eq.mpr c40
      clear c40
      by_cases c41 : t310 = 0
      ·rw [if_pos c41] at H
       have c41b0 : (t310 == 0) = true := beq_iff_eq.mpr c41
       have c41b1 : (t310 != 0) = false := bne_eq_false_iff_eq.mpr c41
       clear c41
       by_cases c42 : t318 = 0
       ·rw [if_pos c42] at H
        have c42b0 : (t318 == 0) = true := beq_iff_eq.mpr c42
        have c42b1 : (t318 != 0) = false := bne_eq_false_iff_eq.mpr c42
        clear c42
        replace H := zi H
        obtain ⟨t320, A430, H⟩ := H
        try dsimp only at H
        have A43 := Aside0.mk A430
        clear A430
        replace H := zi H
        obtain ⟨t323, A440, H⟩ := H
        try dsimp only at H
        have A44 := Aside0.mk A440
        clear A440
        have H' := Aside0.mk H
        clear H
        go_wp2_with (first | (go_at_call 50; (with_reducible refine (agoniclaw05_C.calls k  t320 _ A43.out).mono ?_); rintro e w45 ⟨v321, rfl, ho0, hb⟩; replace HO291 := Aside0.mk (Kd.R_below (by refine zl ?_; exact (Kd.R_mono (Kd.R_far (p := ⟨gb319, 1, none⟩) (Kd.R_far (p := ⟨gb319, 0, none⟩) (Kd.R_mono HO291.out (fun k_ hk => (⟨hk, hk.2⟩ : _ ∧ k_ ≠ gb319))) (fun _ hk => hk.2) (.int .i64 t316)) (fun _ hk => hk.2) (.int .i64 t317)) (fun _ h_ => h_.1))) hb); replace HO298 := Aside0.mk (Kd.R_below (by refine zl ?_; exact (Kd.R_mono (Kd.R_far (p := ⟨gb319, 1, none⟩) (Kd.R_far (p := ⟨gb319, 0, none⟩) (Kd.R_mono HO298.out (fun k_ hk => (⟨hk, hk.2⟩ : _ ∧ k_ ≠ gb319))) (fun _ hk => hk.2) (.int .i64 t316)) (fun _ hk => hk.2) (.int .i64 t317)) (fun _ h_ => h_.1))) hb); replace HO305 := Aside0.mk (Kd.R_below (by refine zl ?_; exact (Kd.R_mono (Kd.R_far (p := ⟨gb319, 1, none⟩) (Kd.R_far (p := ⟨gb319, 0, none⟩) (Kd.R_types HO305.out BK319.out (by decide)) (fun _ hk => hk.2) (.int .i64 t316)) (fun _ hk => hk.2) (.int .i64 t317)) (fun _ h_ => h_.1))) hb); replace HO312 := Aside0.mk (Kd.R_below (by refine zl ?_; exact (Kd.R_mono (Kd.R_far (p := ⟨gb319, 1, none⟩) (Kd.R_far (p := ⟨gb319, 0, none⟩) (Kd.R_types HO312.out BK319.out (by decide)) (fun _ hk => hk.2) (.int .i64 t316)) (fun _ hk => hk.2) (.int .i64 t317)) (fun _ h_ => h_.1))) hb); have HO322 := Aside0.mk (Kd.R_lower ho0 (below_size zh)); replace BK284 := Aside0.mk (blk_below (g := gb284) (o := .cells #[.int .i64 t281, .int .i64 t282] 29 (0, 0)) (by refine zm ?_; refine blk_far ?_ NB284_319.out _; refine zm ?_; refine blk_far ?_ NB284_319.out _; refine zm ?_; exact BK284.out) hb); replace BK319 := Aside0.mk (blk_below (g := gb319) (o := .cells #[.int .i64 t316, .int .i64 t317] 29 (0, 0)) (by refine zm ?_; refine blk_put (cs := #[.int .i64 t316, .int .i64 0]) ?_ 1 _ rfl; refine zm ?_; refine blk_put (cs := #[.int .i64 0, .int .i64 0]) ?_ 0 _ rfl; refine zm ?_; exact BK319.out) hb); replace HB := zd hb; (try clear hb); (try clear hk); (try clear ho0); obtain ⟨Ao46, co46, eo46⟩ := Kd.R_slice HO322.out; subst eo46) | (go_at_call 35; (with_reducible refine (card_Sure.calls k _ _ t320 t323 _ ?side1 ?side2 A44.out).mono ?_); (case side1 => exact zc (Kd.R_reads' HO322.out).2.2); (case side2 => exact (Kd.R_reads' HO322.out).2.1); rintro e w47 ⟨rfl, hb⟩; replace HO291 := zr HO291 hb; replace HO298 := zr HO298 hb; replace HO305 := zr HO305 hb; replace HO312 := zr HO312 hb; replace BK284 := zk BK284 hb; replace BK319 := zk BK319 hb; replace HB := zd hb; (try clear hb)))
        go_meet
        case rel => exact ⟨_, ((t323 != 0)), (by first | rfl | (simp; done) | (simp [*]; done)), H', ⟨by first | omega | exact Nat.le_refl _⟩, ⟨by refine zl ?_; exact Kd.R_mono HO291.out (fun _ hk => ⟨hk.1.2, ⟨hk.1.1.2, hk.2⟩⟩)⟩, ⟨by refine zl ?_; exact Kd.R_mono HO298.out (fun _ hk => ⟨hk.1.1.2, ⟨hk.1.2, hk.2⟩⟩)⟩, ⟨by refine zl ?_; exact HO305.out⟩, ⟨by refine zl ?_; exact Kd.R_mono HO312.out (fun _ hk => trivial)⟩, ⟨by refine zm ?_; exact BK284.out⟩, ⟨by refine zm ?_; exact BK319.out⟩, ⟨zh⟩⟩
       ·rw [if_neg c42] at H
        exact absurd H (by simp)
      ·rw [if_neg c41] at H
       exact absurd H (by simp)
     ·rw [if_neg c40] at H
      exact absurd H (by simp)
    ·rw [if_neg c39] at H
     exact absurd H (by simp)
   ·rw [if_neg c38] at H
    exact absurd H (by simp)
  ·rw [if_neg c37] at H
   exact absurd H (by simp)
 case rest =>
  clear HC13
  try clear c1
  try clear c2
  try clear p2
  try clear c3
  try clear c4
  try clear c14
  try clear c16
  try clear c18
  try clear c23
  try clear c25
  try clear c28
  try clear c35
  try clear c37
  try clear c37b0
  try clear c37b1
  try clear c38
  try clear c38b0
  try clear c38b1
  try clear c39
  try clear c39b0
  try clear c39b1
  try clear c40
  try clear c40b0
  try clear c40b1
  try clear c41
  try clear c41b0
  try clear c41b1
  try clear c42
  try clear c42b0
  try clear c42b1
  try clear hcz18_0
  try clear hcz18_1
  try clear hcz36_0
  try clear hcz36_1
  try clear hfz18_0
  try clear hfz18_1
  try clear hfz36_0
  try clear hfz36_1
  obtain ⟨kq, x72_12, rfl, HA, HJ12, HO_3, HO_5, HO_7, HO_9, BK284, BK319, HB⟩ := hcut
  cases kq with
  | zero => exact absurd HA.out (by simp [agoniclaw05_worksAll.j0])
  | succ kj12 =>
   have H := HA.out
   clear HA
   simp only [agoniclaw05_worksAll.j0] at H
   by_cases c48 : x72_12 = true
   ·subst c48
    rw [if_pos rfl] at H
    obtain rfl := Option.some.inj H
    go_wp2
    go_ret
    exact ⟨ze, zh⟩
   ·replace c48 := Bool.eq_false_iff.mpr c48
    subst c48
    rw [if_neg (show ¬ (false = true) by decide)] at H
    replace H := zi H
    obtain ⟨t324, A490, H⟩ := H
    try dsimp only at H
    have A49 := Aside0.mk A490
    clear A490
    replace H := zi H
    obtain ⟨⟨t327, t328, t329⟩, A500, H⟩ := H
    try dsimp only at H
    have A50 := Aside0.mk A500
    clear A500
    replace H := zi H
    obtain ⟨t331, A510, H⟩ := H
    try dsimp only at H
    have A51 := Aside0.mk A510
    clear A510
    replace H := zi H
    obtain ⟨⟨t334, t335, t336, t337, t338⟩, A520, H⟩ := H
    try dsimp only at H
    have A52 := Aside0.mk A520
    clear A520
    by_cases c53 : t329 = 0
    ·rw [if_pos c53] at H
     have c53b0 : (t329 == 0) = true := beq_iff_eq.mpr c53
     have c53b1 : (t329 != 0) = false := bne_eq_false_iff_eq.mpr c53
     clear c53
     by_cases c54 : t338 = 0
     ·rw [if_pos c54] at H
      have c54b0 : (t338 == 0) = true := beq_iff_eq.mpr c54
      have c54b1 : (t338 != 0) = false := bne_eq_false_iff_eq.mpr c54
      clear c54
      replace H := zi H
      obtain ⟨⟨t341, t342⟩, A550, H⟩ := H
      try dsimp only at H
      have A55 := Aside0.mk A550
      clear A550
      by_cases c56 : (t281 == t341 && (t282 == t342)) = true
      ·rw [if_pos c56] at H
       have c56b0 : (t281 == t341 && (t282 == t342)) = true := c56
       (try (have c56b1 : decide (t281 = t341 && (t282 == t342)) = true := by simpa using c56))
       (try (have c56b2 : (t281 == t341 && (t282 == t342)) = true := by simpa using c56))
       clear c56
       replace H := zi H
       obtain ⟨⟨t343, t344⟩, A570, H⟩ := H
       try dsimp only at H
       have A57 := Aside0.mk A570
       clear A570
       obtain ⟨y345, hy345⟩ : ∃ y_ : List (S29), y_ = (([(⟨t343, t344⟩ : S29)] : List (S29))) := ⟨_, rfl⟩
       replace H : ((agoniclaw05_ratios.f kj12 t288 y345).bind fun t348 => (if t348 = true then ((agoniclaw05_part.f 50 1).bind fun bt349 => ((agoniclaw05_part.f 5450 37).bind fun bt351 => ((agoniclaw05_part.f 131450 37).bind fun bt353 => ((agoniclaw05_ratios.f kj12 t295 (([(⟨bt349.1, bt349.2⟩ : S29), (⟨bt351.1, bt351.2⟩ : S29), (⟨bt353.1, bt353.2⟩ : S29)] : List (S29)))).bind fun t358 => (if t358 = true then ((agoniclaw05_numbers.f kj12 t302 (([0] : List Int))).bind fun t362 => (if t362 = true then ((agoniclaw05_cards.f kj12 (([0, 0, 990, (-90), 1800, 0, 2610, 90] : List Int))).bind fun t366 => ((agoniclaw05_points.f kj12 t309 t366).bind fun t369 => (if t369 = true then ((agoniclaw05_part.f 800 9).bind fun bt370 => (if (t316 == bt370.1 && (t317 == bt370.2)) = true then ((agoniclaw05_part.f 0 1).bind fun bt372 => (if (t327 == bt372.1 && (t328 == bt372.2)) = true then ((agoniclaw05_part.f 3240 41).bind fun bt374 => (if (t334 == bt374.1 && (t335 == bt374.2)) = true then ((agoniclaw05_part.f 99 1).bind fun bt376 => (some (t336 == bt376.1 && (t337 == bt376.2)))) else (none))) else (none))) else (none))) else (none)))) else (none))) else (none)))))) else (none))) = some r := by first | (rw [hy345]; with_reducible exact H) | (have H2_ := (Option.bind_some _ _).symm.trans H; rw [hy345]; with_reducible exact H2_) | (have H2_ := (Option.bind_some _ _).symm.trans H; with_reducible exact H2_) | with_reducible exact H | (rw [hy345]; exact H) | exact H
       have Ny345 := Aside0.mk hy345
       clear hy345
       replace H := zi H
       obtain ⟨t348, A580, H⟩ := H
       try dsimp only at H
       have A58 := Aside0.mk A580
       clear A580
       by_cases c59 : t348 = true
       ·subst c59
        rw [if_pos rfl] at H
        replace H := zi H
        obtain ⟨⟨t349, t350⟩, A600, H⟩ := H
        try dsimp only at H
        have A60 := Aside0.mk A600
        clear A600
        replace H := zi H
        obtain ⟨⟨t351, t352⟩, A610, H⟩ := H
        try dsimp only at H
        have A61 := Aside0.mk A610
        clear A610
        replace H := zi H
        obtain ⟨⟨t353, t354⟩, A620, H⟩ := H
        try dsimp only at H
        have A62 := Aside0.mk A620
        clear A620
        obtain ⟨y355, hy355⟩ : ∃ y_ : List (S29), y_ = (([(⟨t349, t350⟩ : S29), (⟨t351, t352⟩ : S29), (⟨t353, t354⟩ : S29)] : List (S29))) := ⟨_, rfl⟩
        replace H : ((agoniclaw05_ratios.f kj12 t295 y355).bind fun t358 => (if t358 = true then ((agoniclaw05_numbers.f kj12 t302 (([0] : List Int))).bind fun t362 => (if t362 = true then ((agoniclaw05_cards.f kj12 (([0, 0, 990, (-90), 1800, 0, 2610, 90] : List Int))).bind fun t366 => ((agoniclaw05_points.f kj12 t309 t366).bind fun t369 => (if t369 = true then ((agoniclaw05_part.f 800 9).bind fun bt370 => (if (t316 == bt370.1 && (t317 == bt370.2)) = true then ((agoniclaw05_part.f 0 1).bind fun bt372 => (if (t327 == bt372.1 && (t328 == bt372.2)) = true then ((agoniclaw05_part.f 3240 41).bind fun bt374 => (if (t334 == bt374.1 && (t335 == bt374.2)) = true then ((agoniclaw05_part.f 99 1).bind fun bt376 => (some (t336 == bt376.1 && (t337 == bt376.2)))) else (none))) else (none))) else (none))) else (none)))) else (none))) else (none))) = some r := by first | (rw [hy355]; with_reducible exact H) | (have H2_ := (Option.bind_some _ _).symm.trans H; rw [hy355]; with_reducible exact H2_) | (have H2_ := (Option.bind_some _ _).symm.trans H; with_reducible exact H2_) | with_reducible exact H | (rw [hy355]; exact H) | exact H
        have Ny355 := Aside0.mk hy355
        clear hy355
        replace H := zi H
        obtain ⟨t358, A630, H⟩ := H
        try dsimp only at H
        have A63 := Aside0.mk A630
        clear A630
        by_cases c64 : t358 = true
        ·subst c64
         rw [if_pos rfl] at H
         obtain ⟨y359, hy359⟩ : ∃ y_ : List Int, y_ = (([0] : List Int)) := ⟨_, rfl⟩
         replace H : ((agoniclaw05_numbers.f kj12 t302 y359).bind fun t362 => (if t362 = true then ((agoniclaw05_cards.f kj12 (([0, 0, 990, (-90), 1800, 0, 2610, 90] : List Int))).bind fun t366 => ((agoniclaw05_points.f kj12 t309 t366).bind fun t369 => (if t369 = true then ((agoniclaw05_part.f 800 9).bind fun bt370 => (if (t316 == bt370.1 && (t317 == bt370.2)) = true then ((agoniclaw05_part.f 0 1).bind fun bt372 => (if (t327 == bt372.1 && (t328 == bt372.2)) = true then ((agoniclaw05_part.f 3240 41).bind fun bt374 => (if (t334 == bt374.1 && (t335 == bt374.2)) = true then ((agoniclaw05_part.f 99 1).bind fun bt376 => (some (t336 == bt376.1 && (t337 == bt376.2)))) else (none))) else (none))) else (none))) else (none)))) else (none))) = some r := by first | (rw [hy359]; with_reducible exact H) | (have H2_ := (Option.bind_some _ _).symm.trans H; rw [hy359]; with_reducible exact H2_) | (have H2_ := (Option.bind_some _ _).symm.trans H; with_reducible exact H2_) | with_reducible exact H | (rw [hy359]; exact H) | exact H
         have Ny359 := Aside0.mk hy359
         clear hy359
         replace H := zi H
         obtain ⟨t362, A650, H⟩ := H
         try dsimp only at H
         have A65 := Aside0.mk A650
         clear A650
         by_cases c66 : t362 = true
         ·subst c66
          rw [if_pos rfl] at H
          obtain ⟨y363, hy363⟩ : ∃ y_ : List Int, y_ = (([0, 0, 990, (-90), 1800, 0, 2610, 90] : List Int)) := ⟨_, rfl⟩
          replace H : ((agoniclaw05_cards.f kj12 y363).bind fun t366 => ((agoniclaw05_points.f kj12 t309 t366).bind fun t369 => (if t369 = true then ((agoniclaw05_part.f 800 9).bind fun bt370 => (if (t316 == bt370.1 && (t317 == bt370.2)) = true then ((agoniclaw05_part.f 0 1).bind fun bt372 => (if (t327 == bt372.1 && (t328 == bt372.2)) = true then ((agoniclaw05_part.f 3240 41).bind fun bt374 => (if (t334 == bt374.1 && (t335 == bt374.2)) = true then ((agoniclaw05_part.f 99 1).bind fun bt376 => (some (t336 == bt376.1 && (t337 == bt376.2)))) else (none))) else (none))) else (none))) else (none)))) = some r := by first | (rw [hy363]; with_reducible exact H) | (have H2_ := (Option.bind_some _ _).symm.trans H; rw [hy363]; with_reducible exact H2_) | (have H2_ := (Option.bind_some _ _).symm.trans H; with_reducible exact H2_) | with_reducible exact H | (rw [hy363]; exact H) | exact H
          have Ny363 := Aside0.mk hy363
          clear hy363
          replace H := zi H
          obtain ⟨t366, A670, H⟩ := H
          try dsimp only at H
          have A67 := Aside0.mk A670
          clear A670
          replace H := zi H
          obtain ⟨t369, A680, H⟩ := H
          try dsimp only at H
          have A68 := Aside0.mk A680
          clear A680
          by_cases c69 : t369 = true
          ·subst c69
           rw [if_pos rfl] at H
           replace H := zi H
           obtain ⟨⟨t370, t371⟩, A700, H⟩ := H
           try dsimp only at H
           have A70 := Aside0.mk A700
           clear A700
           by_cases c71 : (t316 == t370 && (t317 == t371)) = true
           ·rw [if_pos c71] at H
            have c71b0 : (t316 == t370 && (t317 == t371)) = true := c71
            (try (have c71b1 : decide (t316 = t370 && (t317 == t371)) = true := by simpa using c71))
            (try (have c71b2 : (t316 == t370 && (t317 == t371)) = true := by simpa using c71))
            clear c71
            replace H := zi H
            obtain ⟨⟨t372, t373⟩, A720, H⟩ := H
            try dsimp only at H
            have A72 := Aside0.mk A720
            clear A720
            by_cases c73 : (t327 == t372 && (t328 == t373)) = true
            ·rw [if_pos c73] at H
             have c73b0 : (t327 == t372 && (t328 == t373)) = true := c73
             (try (have c73b1 : decide (t327 = t372 && (t328 == t373)) = true := by simpa using c73))
             (try (have c73b2 : (t327 == t372 && (t328 == t373)) = true := by simpa using c73))
             clear c73
             replace H := zi H
             obtain ⟨⟨t374, t375⟩, A740, H⟩ := H
             try dsimp only at H
             have A74 := Aside0.mk A740
             clear A740
             by_cases c75 : (t334 == t374 && (t335 == t375)) = true
             ·rw [if_pos c75] at H
              have c75b0 : (t334 == t374 && (t335 == t375)) = true := c75
              (try (have c75b1 : decide (t334 = t374 && (t335 == t375)) = true := by simpa using c75))
              (try (have c75b2 : (t334 == t374 && (t335 == t375)) = true := by simpa using c75))
              clear c75
              replace H := zi H
              obtain ⟨⟨t376, t377⟩, A760, H⟩ := H
              try dsimp only at H
              have A76 := Aside0.mk A760
              clear A760
              obtain rfl := Option.some.inj H
              try go_wp2_with (first | ((with_reducible refine gC 48 rfl ?_); refine gL 74 Try.func48 #[] ?_; (with_reducible refine (agoniclaw05_A.calls kj12  t324 _ A49.out).mono ?_); rintro e w77 ⟨v325, rfl, ho0, hb⟩; refine ⟨_, rfl, ?_⟩; replace HO_3 := zr HO_3 hb; replace HO_5 := zr HO_5 hb; replace HO_7 := zr HO_7 hb; have HO326 := Aside0.mk (Kd.R_lower (Kd.R_new' ho0 (Kd.R_lt (zo HO_9.out))) (below_size zh)); replace HO_9 := Aside0.mk (Kd.R_elder' (zo HO_9.out) (Kd.R_base ho0) hb); replace BK284 := zk BK284 hb; replace BK319 := zk BK319 hb; replace HB := zd hb; (try clear hb); (try clear ho0); obtain ⟨Ao78, co78, eo78⟩ := Kd.R_slice HO326.out; subst eo78; obtain ⟨Ao79, co79, eo79⟩ := Kd.R_slice HO_9.out; subst eo79) | ((with_reducible refine gC 30 rfl ?_); refine gL 77 Try.func30 #[.slice (some ⟨_, 0, none⟩) 2 2, .int .i64 450] ?_; (with_reducible refine (card_Follow2.calls kj12 _ _ t324 _ _ t309 450 t327 t328 t329 _ ?side1 ?side2 ?side3 ?side4 A50.out).mono ?_); (case side1 => exact zc (Kd.R_reads' HO326.out).2.2); (case side2 => exact (Kd.R_reads' HO326.out).2.1); (case side3 => exact zc (Kd.R_reads' HO_9.out).2.2); (case side4 => exact (Kd.R_reads' HO_9.out).2.1); rintro e w80 ⟨rfl, hb⟩; refine ⟨_, rfl, ?_⟩; replace HO_3 := zr HO_3 hb; replace HO_5 := zr HO_5 hb; replace HO_7 := zr HO_7 hb; replace HO_9 := zr HO_9 hb; replace HO326 := zr HO326 hb; replace BK284 := zk BK284 hb; replace BK319 := zk BK319 hb; replace HB := zd hb; (try clear hb)) | ((with_reducible refine gD 13 rfl ?_); (try (refine gate_guard (by rfl) ?_; dsimp only)); refine zx 13 #[.int .i64 0, .int .i64 0] 29 ?_; intro gb330 hg w81 hbox hb; replace HO_3 := Aside0.mk (Kd.R_below (Kd.R_elderB (zo HO_3.out) gb330 (Nat.le_of_eq hg.symm)) hb); replace HO_5 := Aside0.mk (Kd.R_below (Kd.R_elderB (zo HO_5.out) gb330 (Nat.le_of_eq hg.symm)) hb); replace HO_7 := zr HO_7 hb; replace HO_9 := zr HO_9 hb; replace HO326 := zr HO326 hb; have BK330 := Aside0.mk (hbox); have GE330 := zG w hg; replace HB := zd hb; have NB284_330 := zN BK284 hg; have NB330_284 := zM BK284 hg; replace BK284 := zk BK284 hb; have NB319_330 := zN BK319 hg; have NB330_319 := zM BK319 hg; replace BK319 := zk BK319 hb; clear hb hbox hg; have hnb82 := NB330_284.out; have hnc82 := NB284_330.out; have hnb83 := NB330_319.out; have hnc83 := NB319_330.out; have hcz84_0 : w81.cell? ⟨gb330, 0, none⟩ = some (.int .i64 0) := zy BK330 0; have hcz84_1 : w81.cell? ⟨gb330, 1, none⟩ = some (.int .i64 0) := zy BK330 1; have hfz84_0 := blk_frozen BK330.out 0; have hfz84_1 := blk_frozen BK330.out 1) | ((with_reducible refine gC 50 rfl ?_); refine gL 81 Try.func50 #[] ?_; (with_reducible refine (agoniclaw05_C.calls kj12  t331 _ A51.out).mono ?_); rintro e w85 ⟨v332, rfl, ho0, hb⟩; refine ⟨_, rfl, ?_⟩; replace HO_3 := Aside0.mk (Kd.R_below (by refine zl ?_; exact (Kd.R_mono (Kd.R_far (p := ⟨gb330, 1, none⟩) (Kd.R_far (p := ⟨gb330, 0, none⟩) (Kd.R_mono HO_3.out (fun k_ hk => (⟨hk, hk.2⟩ : _ ∧ k_ ≠ gb330))) (fun _ hk => hk.2) (.int .i64 t327)) (fun _ hk => hk.2) (.int .i64 t328)) (fun _ h_ => h_.1))) hb); replace HO_5 := Aside0.mk (Kd.R_below (by refine zl ?_; exact (Kd.R_mono (Kd.R_far (p := ⟨gb330, 1, none⟩) (Kd.R_far (p := ⟨gb330, 0, none⟩) (Kd.R_mono HO_5.out (fun k_ hk => (⟨hk, hk.2⟩ : _ ∧ k_ ≠ gb330))) (fun _ hk => hk.2) (.int .i64 t327)) (fun _ hk => hk.2) (.int .i64 t328)) (fun _ h_ => h_.1))) hb); replace HO_7 := Aside0.mk (Kd.R_below (by refine zl ?_; exact (Kd.R_mono (Kd.R_far (p := ⟨gb330, 1, none⟩) (Kd.R_far (p := ⟨gb330, 0, none⟩) (Kd.R_types HO_7.out BK330.out (by decide)) (fun _ hk => hk.2) (.int .i64 t327)) (fun _ hk => hk.2) (.int .i64 t328)) (fun _ h_ => h_.1))) hb); replace HO_9 := Aside0.mk (Kd.R_below (by refine zl ?_; exact (Kd.R_mono (Kd.R_far (p := ⟨gb330, 1, none⟩) (Kd.R_far (p := ⟨gb330, 0, none⟩) (Kd.R_types HO_9.out BK330.out (by decide)) (fun _ hk => hk.2) (.int .i64 t327)) (fun _ hk => hk.2) (.int .i64 t328)) (fun _ h_ => h_.1))) hb); replace HO326 := Aside0.mk (Kd.R_below (by refine zl ?_; exact (Kd.R_mono (Kd.R_far (p := ⟨gb330, 1, none⟩) (Kd.R_far (p := ⟨gb330, 0, none⟩) (Kd.R_types HO326.out BK330.out (by decide)) (fun _ hk => hk.2) (.int .i64 t327)) (fun _ hk => hk.2) (.int .i64 t328)) (fun _ h_ => h_.1))) hb); have HO333 := Aside0.mk (Kd.R_lower ho0 (below_size zh)); replace BK284 := Aside0.mk (blk_below (g := gb284) (o := .cells #[.int .i64 t281, .int .i64 t282] 29 (0, 0)) (by refine zm ?_; refine blk_far ?_ NB284_330.out _; refine zm ?_; refine blk_far ?_ NB284_330.out _; refine zm ?_; exact BK284.out) hb); replace BK319 := Aside0.mk (blk_below (g := gb319) (o := .cells #[.int .i64 t316, .int .i64 t317] 29 (0, 0)) (by refine zm ?_; refine blk_far ?_ NB319_330.out _; refine zm ?_; refine blk_far ?_ NB319_330.out _; refine zm ?_; exact BK319.out) hb); replace BK330 := Aside0.mk (blk_below (g := gb330) (o := .cells #[.int .i64 t327, .int .i64 t328] 29 (0, 0)) (by refine zm ?_; refine blk_put (cs := #[.int .i64 t327, .int .i64 0]) ?_ 1 _ rfl; refine zm ?_; refine blk_put (cs := #[.int .i64 0, .int .i64 0]) ?_ 0 _ rfl; refine zm ?_; exact BK330.out) hb); replace HB := zd hb; (try clear hb); (try clear hk); (try clear ho0); obtain ⟨Ao86, co86, eo86⟩ := Kd.R_slice HO333.out; subst eo86) | ((with_reducible refine gC 33 rfl ?_); refine gL 82 Try.func33 #[.slice Ao86 t331.length co86, .int .i64 990] ?_; (with_reducible refine (card_Within.calls kj12 _ _ t331 990 t334 t335 t336 t337 t338 _ ?side1 ?side2 A52.out).mono ?_); (case side1 => exact zc (Kd.R_reads' HO333.out).2.2); (case side2 => exact (Kd.R_reads' HO333.out).2.1); rintro e w87 ⟨rfl, hb⟩; refine ⟨_, rfl, ?_⟩; replace HO_3 := zr HO_3 hb; replace HO_5 := zr HO_5 hb; replace HO_7 := zr HO_7 hb; replace HO_9 := zr HO_9 hb; replace HO326 := zr HO326 hb; replace HO333 := zr HO333 hb; replace BK284 := zk BK284 hb; replace BK319 := zk BK319 hb; replace BK330 := zk BK330 hb; replace HB := zd hb; (try clear hb)) | ((with_reducible refine gD 14 rfl ?_); (try (refine gate_guard (by rfl) ?_; dsimp only)); refine zx 14 #[.int .i64 0, .int .i64 0] 29 ?_; intro gb339 hg w88 hbox hb; replace HO_3 := Aside0.mk (Kd.R_below (Kd.R_elderB (zo HO_3.out) gb339 (Nat.le_of_eq hg.symm)) hb); replace HO_5 := Aside0.mk (Kd.R_below (Kd.R_elderB (zo HO_5.out) gb339 (Nat.le_of_eq hg.symm)) hb); replace HO_7 := zr HO_7 hb; replace HO_9 := zr HO_9 hb; replace HO326 := zr HO326 hb; replace HO333 := zr HO333 hb; have BK339 := Aside0.mk (hbox); have GE339 := zG w hg; replace HB := zd hb; have NB284_339 := zN BK284 hg; have NB339_284 := zM BK284 hg; replace BK284 := zk BK284 hb; have NB319_339 := zN BK319 hg; have NB339_319 := zM BK319 hg; replace BK319 := zk BK319 hb; have NB330_339 := zN BK330 hg; have NB339_330 := zM BK330 hg; replace BK330 := zk BK330 hb; clear hb hbox hg) | ((with_reducible refine gD 15 rfl ?_); (try (refine gate_guard (by rfl) ?_; dsimp only)); refine zx 15 #[.int .i64 0, .int .i64 0] 29 ?_; intro gb340 hg w89 hbox hb; replace HO_3 := Aside0.mk (Kd.R_below (Kd.R_elderB (zo HO_3.out) gb340 (Nat.le_of_eq hg.symm)) hb); replace HO_5 := Aside0.mk (Kd.R_below (Kd.R_elderB (zo HO_5.out) gb340 (Nat.le_of_eq hg.symm)) hb); replace HO_7 := zr HO_7 hb; replace HO_9 := zr HO_9 hb; replace HO326 := zr HO326 hb; replace HO333 := zr HO333 hb; have BK340 := Aside0.mk (hbox); have GE340 := zG w hg; replace HB := zd hb; have NB284_340 := zN BK284 hg; have NB340_284 := zM BK284 hg; replace BK284 := zk BK284 hb; have NB319_340 := zN BK319 hg; have NB340_319 := zM BK319 hg; replace BK319 := zk BK319 hb; have NB330_340 := zN BK330 hg; have NB340_330 := zM BK330 hg; replace BK330 := zk BK330 hb; have NB339_340 := zN BK339 hg; have NB340_339 := zM BK339 hg; replace BK339 := zk BK339 hb; clear hb hbox hg; have hnb90 := NB339_284.out; have hnc90 := NB284_339.out; have hnb91 := NB339_319.out; have hnc91 := NB319_339.out; have hnb92 := NB339_330.out; have hnc92 := NB330_339.out; have hnb93 := NB339_340.out; have hnc93 := NB340_339.out; have hcz94_0 : w89.cell? ⟨gb339, 0, none⟩ = some (.int .i64 0) := zy BK339 0; have hcz94_1 : w89.cell? ⟨gb339, 1, none⟩ = some (.int .i64 0) := zy BK339 1; have hfz94_0 := blk_frozen BK339.out 0; have hfz94_1 := blk_frozen BK339.out 1; have hnb95 := NB340_284.out; have hnc95 := NB284_340.out; have hnb96 := NB340_319.out; have hnc96 := NB319_340.out; have hnb97 := NB340_330.out; have hnc97 := NB330_340.out; have hcz98_0 : w89.cell? ⟨gb340, 0, none⟩ = some (.int .i64 0) := zy BK340 0; have hcz98_1 : w89.cell? ⟨gb340, 1, none⟩ = some (.int .i64 0) := zy BK340 1; have hfz98_0 := blk_frozen BK340.out 0; have hfz98_1 := blk_frozen BK340.out 1))
              have n0_ : Aside0 (Kd.R k29 29 ((((w89.setCell ⟨gb339, 0, none⟩ (.int .i64 t334)).setCell ⟨gb339, 1, none⟩ (.int .i64 t335)).setCell ⟨gb340, 0, none⟩ (.int .i64 t336)).setCell ⟨gb340, 1, none⟩ (.int .i64 t337)) w.heap.size (fun k_ => some k_ ≠ (v297 : Value).ownBlock ∧ k_ ≠ gb284 ∧ k_ ≠ gb319 ∧ k_ ≠ gb330 ∧ k_ ≠ gb339 ∧ k_ ≠ gb340) v290 t288) := ⟨by refine zl ?_; exact Kd.R_mono (Kd.R_far (p := ⟨gb340, 1, none⟩) (Kd.R_far (p := ⟨gb340, 0, none⟩) (Kd.R_far (p := ⟨gb339, 1, none⟩) (Kd.R_far (p := ⟨gb339, 0, none⟩) (Kd.R_mono (Kd.R_mono HO_3.out (fun k_ hk => (⟨hk, hk.1.2⟩ : _ ∧ k_ ≠ gb339))) (fun k_ hk => (⟨hk, hk.1.2⟩ : _ ∧ k_ ≠ gb340))) (fun _ hk => hk.1.2) (.int .i64 t334)) (fun _ hk => hk.1.2) (.int .i64 t335)) (fun _ hk => hk.2) (.int .i64 t336)) (fun _ hk => hk.2) (.int .i64 t337)) (fun _ hk => ⟨hk.1.1.1.1.1.1, ⟨hk.1.1.1.1.1.2.1, ⟨hk.1.1.1.1.1.2.2, ⟨hk.1.1.1.1.2, ⟨hk.1.1.1.2, hk.1.1.2⟩⟩⟩⟩⟩)⟩
              have n1_ : Aside0 (Kd.R k29 29 ((((w89.setCell ⟨gb339, 0, none⟩ (.int .i64 t334)).setCell ⟨gb339, 1, none⟩ (.int .i64 t335)).setCell ⟨gb340, 0, none⟩ (.int .i64 t336)).setCell ⟨gb340, 1, none⟩ (.int .i64 t337)) w.heap.size (fun k_ => some k_ ≠ (v290 : Value).ownBlock ∧ k_ ≠ gb284 ∧ k_ ≠ gb319 ∧ k_ ≠ gb330 ∧ k_ ≠ gb339 ∧ k_ ≠ gb340) v297 t295) := ⟨by refine zl ?_; exact Kd.R_mono (Kd.R_far (p := ⟨gb340, 1, none⟩) (Kd.R_far (p := ⟨gb340, 0, none⟩) (Kd.R_far (p := ⟨gb339, 1, none⟩) (Kd.R_far (p := ⟨gb339, 0, none⟩) (Kd.R_mono (Kd.R_mono HO_5.out (fun k_ hk => (⟨hk, hk.1.2⟩ : _ ∧ k_ ≠ gb339))) (fun k_ hk => (⟨hk, hk.1.2⟩ : _ ∧ k_ ≠ gb340))) (fun _ hk => hk.1.2) (.int .i64 t334)) (fun _ hk => hk.1.2) (.int .i64 t335)) (fun _ hk => hk.2) (.int .i64 t336)) (fun _ hk => hk.2) (.int .i64 t337)) (fun _ hk => ⟨hk.1.1.1.1.1.1, ⟨hk.1.1.1.1.1.2.1, ⟨hk.1.1.1.1.1.2.2, ⟨hk.1.1.1.1.2, ⟨hk.1.1.1.2, hk.1.1.2⟩⟩⟩⟩⟩)⟩
              have n2_ : Aside0 (Kd.R (Kd.int .i64) 3 ((((w89.setCell ⟨gb339, 0, none⟩ (.int .i64 t334)).setCell ⟨gb339, 1, none⟩ (.int .i64 t335)).setCell ⟨gb340, 0, none⟩ (.int .i64 t336)).setCell ⟨gb340, 1, none⟩ (.int .i64 t337)) w.heap.size (fun _ => True) v304 t302) := ⟨by refine zl ?_; exact Kd.R_mono (Kd.R_far (p := ⟨gb340, 1, none⟩) (Kd.R_far (p := ⟨gb340, 0, none⟩) (Kd.R_far (p := ⟨gb339, 1, none⟩) (Kd.R_far (p := ⟨gb339, 0, none⟩) (Kd.R_types (Kd.R_types HO_7.out BK339.out (by decide)) BK340.out (by decide)) (fun _ hk => hk.1.2) (.int .i64 t334)) (fun _ hk => hk.1.2) (.int .i64 t335)) (fun _ hk => hk.2) (.int .i64 t336)) (fun _ hk => hk.2) (.int .i64 t337)) (fun _ hk => trivial)⟩
              have n3_ : Aside0 (Kd.R k55 55 ((((w89.setCell ⟨gb339, 0, none⟩ (.int .i64 t334)).setCell ⟨gb339, 1, none⟩ (.int .i64 t335)).setCell ⟨gb340, 0, none⟩ (.int .i64 t336)).setCell ⟨gb340, 1, none⟩ (.int .i64 t337)) w.heap.size (fun k_ => some k_ ≠ (.slice Ao78 t324.length co78 : Value).ownBlock) (.slice Ao79 t309.length co79) t309) := ⟨by refine zl ?_; exact Kd.R_mono (Kd.R_far (p := ⟨gb340, 1, none⟩) (Kd.R_far (p := ⟨gb340, 0, none⟩) (Kd.R_far (p := ⟨gb339, 1, none⟩) (Kd.R_far (p := ⟨gb339, 0, none⟩) (Kd.R_types (Kd.R_types HO_9.out BK339.out (by decide)) BK340.out (by decide)) (fun _ hk => hk.1.2) (.int .i64 t334)) (fun _ hk => hk.1.2) (.int .i64 t335)) (fun _ hk => hk.2) (.int .i64 t336)) (fun _ hk => hk.2) (.int .i64 t337)) (fun _ hk => hk.1.1.2)⟩
              have n4_ : Aside0 (Kd.R k55 55 ((((w89.setCell ⟨gb339, 0, none⟩ (.int .i64 t334)).setCell ⟨gb339, 1, none⟩ (.int .i64 t335)).setCell ⟨gb340, 0, none⟩ (.int .i64 t336)).setCell ⟨gb340, 1, none⟩ (.int .i64 t337)) w.heap.size (fun k_ => some k_ ≠ (.slice Ao79 t309.length co79 : Value).ownBlock) (.slice Ao78 t324.length co78) t324) := ⟨by refine zl ?_; exact Kd.R_mono (Kd.R_far (p := ⟨gb340, 1, none⟩) (Kd.R_far (p := ⟨gb340, 0, none⟩) (Kd.R_far (p := ⟨gb339, 1, none⟩) (Kd.R_far (p := ⟨gb339, 0, none⟩) (Kd.R_types (Kd.R_types HO326.out BK339.out (by decide)) BK340.out (by decide)) (fun _ hk => hk.1.2) (.int .i64 t334)) (fun _ hk => hk.1.2) (.int .i64 t335)) (fun _ hk => hk.2) (.int .i64 t336)) (fun _ hk => hk.2) (.int .i64 t337)) (fun _ hk => hk.1.1.2)⟩
              have n5_ : Aside0 (Kd.R k92 92 ((((w89.setCell ⟨gb339, 0, none⟩ (.int .i64 t334)).setCell ⟨gb339, 1, none⟩ (.int .i64 t335)).setCell ⟨gb340, 0, none⟩ (.int .i64 t336)).setCell ⟨gb340, 1, none⟩ (.int .i64 t337)) w.heap.size (fun _ => True) (.slice Ao86 t331.length co86) t331) := ⟨by refine zl ?_; exact Kd.R_mono (Kd.R_far (p := ⟨gb340, 1, none⟩) (Kd.R_far (p := ⟨gb340, 0, none⟩) (Kd.R_far (p := ⟨gb339, 1, none⟩) (Kd.R_far (p := ⟨gb339, 0, none⟩) (Kd.R_types (Kd.R_types HO333.out BK339.out (by decide)) BK340.out (by decide)) (fun _ hk => hk.1.2) (.int .i64 t334)) (fun _ hk => hk.1.2) (.int .i64 t335)) (fun _ hk => hk.2) (.int .i64 t336)) (fun _ hk => hk.2) (.int .i64 t337)) (fun _ hk => trivial)⟩
              have n6_ : Aside0 (((((w89.setCell ⟨gb339, 0, none⟩ (.int .i64 t334)).setCell ⟨gb339, 1, none⟩ (.int .i64 t335)).setCell ⟨gb340, 0, none⟩ (.int .i64 t336)).setCell ⟨gb340, 1, none⟩ (.int .i64 t337)).heap[gb284]? = some (.cells #[.int .i64 t281, .int .i64 t282] 29 (0, 0))) := ⟨by refine zm ?_; refine blk_far ?_ NB284_340.out _; refine zm ?_; refine blk_far ?_ NB284_340.out _; refine zm ?_; refine blk_far ?_ NB284_339.out _; refine zm ?_; refine blk_far ?_ NB284_339.out _; refine zm ?_; exact BK284.out⟩
              have n7_ : Aside0 (((((w89.setCell ⟨gb339, 0, none⟩ (.int .i64 t334)).setCell ⟨gb339, 1, none⟩ (.int .i64 t335)).setCell ⟨gb340, 0, none⟩ (.int .i64 t336)).setCell ⟨gb340, 1, none⟩ (.int .i64 t337)).heap[gb319]? = some (.cells #[.int .i64 t316, .int .i64 t317] 29 (0, 0))) := ⟨by refine zm ?_; refine blk_far ?_ NB319_340.out _; refine zm ?_; refine blk_far ?_ NB319_340.out _; refine zm ?_; refine blk_far ?_ NB319_339.out _; refine zm ?_; refine blk_far ?_ NB319_339.out _; refine zm ?_; exact BK319.out⟩
              have n8_ : Aside0 (((((w89.setCell ⟨gb339, 0, none⟩ (.int .i64 t334)).setCell ⟨gb339, 1, none⟩ (.int .i64 t335)).setCell ⟨gb340, 0, none⟩ (.int .i64 t336)).setCell ⟨gb340, 1, none⟩ (.int .i64 t337)).heap[gb330]? = some (.cells #[.int .i64 t327, .int .i64 t328] 29 (0, 0))) := ⟨by refine zm ?_; refine blk_far ?_ NB330_340.out _; refine zm ?_; refine blk_far ?_ NB330_340.out _; refine zm ?_; refine blk_far ?_ NB330_339.out _; refine zm ?_; refine blk_far ?_ NB330_339.out _; refine zm ?_; exact BK330.out⟩
              have n9_ : Aside0 (((((w89.setCell ⟨gb339, 0, none⟩ (.int .i64 t334)).setCell ⟨gb339, 1, none⟩ (.int .i64 t335)).setCell ⟨gb340, 0, none⟩ (.int .i64 t336)).setCell ⟨gb340, 1, none⟩ (.int .i64 t337)).heap[gb339]? = some (.cells #[.int .i64 t334, .int .i64 t335] 29 (0, 0))) := ⟨by refine zm ?_; refine blk_far ?_ NB339_340.out _; refine zm ?_; refine blk_far ?_ NB339_340.out _; refine zm ?_; refine blk_put (cs := #[.int .i64 t334, .int .i64 0]) ?_ 1 _ rfl; refine zm ?_; refine blk_put (cs := #[.int .i64 0, .int .i64 0]) ?_ 0 _ rfl; refine zm ?_; exact BK339.out⟩
              have n10_ : Aside0 (((((w89.setCell ⟨gb339, 0, none⟩ (.int .i64 t334)).setCell ⟨gb339, 1, none⟩ (.int .i64 t335)).setCell ⟨gb340, 0, none⟩ (.int .i64 t336)).setCell ⟨gb340, 1, none⟩ (.int .i64 t337)).heap[gb340]? = some (.cells #[.int .i64 t336, .int .i64 t337] 29 (0, 0))) := ⟨by refine zm ?_; refine blk_put (cs := #[.int .i64 t336, .int .i64 0]) ?_ 1 _ rfl; refine zm ?_; refine blk_put (cs := #[.int .i64 0, .int .i64 0]) ?_ 0 _ rfl; refine zm ?_; refine blk_far ?_ NB340_339.out _; refine zm ?_; refine blk_far ?_ NB340_339.out _; refine zm ?_; exact BK340.out⟩
              have n11_ : Aside0 (Below w.heap.size w ((((w89.setCell ⟨gb339, 0, none⟩ (.int .i64 t334)).setCell ⟨gb339, 1, none⟩ (.int .i64 t335)).setCell ⟨gb340, 0, none⟩ (.int .i64 t336)).setCell ⟨gb340, 1, none⟩ (.int .i64 t337))) := ⟨zh⟩
              (try clear HO_3)
              (try clear HO_5)
              (try clear HO_7)
              (try clear HO_9)
              (try clear HO326)
              (try clear HO333)
              (try clear BK284)
              (try clear BK319)
              (try clear BK330)
              (try clear BK339)
              (try clear BK340)
              (try clear HB)
              generalize ((((w89.setCell ⟨gb339, 0, none⟩ (.int .i64 t334)).setCell ⟨gb339, 1, none⟩ (.int .i64 t335)).setCell ⟨gb340, 0, none⟩ (.int .i64 t336)).setCell ⟨gb340, 1, none⟩ (.int .i64 t337)) = w99 at n0_ n1_ n2_ n3_ n4_ n5_ n6_ n7_ n8_ n9_ n10_ n11_ ⊢
              have HO_3 := n0_
              have HO_5 := n1_
              have HO_7 := n2_
              have HO_9 := n3_
              have HO326 := n4_
              have HO333 := n5_
              have BK284 := n6_
              have BK319 := n7_
              have BK330 := n8_
              have BK339 := n9_
              have BK340 := n10_
              have HB := n11_
              clear n0_ n1_ n2_ n3_ n4_ n5_ n6_ n7_ n8_ n9_ n10_ n11_
              replace HO_3 := Aside0.mk (Kd.R_drew HO_3.out)
              replace HO_5 := Aside0.mk (Kd.R_drew HO_5.out)
              replace HO_7 := Aside0.mk (Kd.R_drew HO_7.out)
              replace HO_9 := Aside0.mk (Kd.R_drew HO_9.out)
              replace HO326 := Aside0.mk (Kd.R_drew HO326.out)
              replace HO333 := Aside0.mk (Kd.R_drew HO333.out)
              replace BK284 := Aside0.mk (blk_drew BK284.out)
              replace BK319 := Aside0.mk (blk_drew BK319.out)
              replace BK330 := Aside0.mk (blk_drew BK330.out)
              replace BK339 := Aside0.mk (blk_drew BK339.out)
              replace BK340 := Aside0.mk (blk_drew BK340.out)
              replace HB := Aside0.mk (below_drew1 HB.out)
              refine start_ (n := 57) (S := fun w' => w'.cell? ⟨gb284, 0, none⟩ = some (.int .i64 t281) ∧ w'.cell? ⟨gb284, 1, none⟩ = some (.int .i64 t282) ∧ w'.cell? ⟨gb319, 0, none⟩ = some (.int .i64 t316) ∧ w'.cell? ⟨gb319, 1, none⟩ = some (.int .i64 t317) ∧ w'.cell? ⟨gb330, 0, none⟩ = some (.int .i64 t327) ∧ w'.cell? ⟨gb330, 1, none⟩ = some (.int .i64 t328) ∧ w'.cell? ⟨gb339, 0, none⟩ = some (.int .i64 t334) ∧ w'.cell? ⟨gb339, 1, none⟩ = some (.int .i64 t335) ∧ w'.cell? ⟨gb340, 0, none⟩ = some (.int .i64 t336) ∧ w'.cell? ⟨gb340, 1, none⟩ = some (.int .i64 t337)) (ds := []) #[false, false, false, false, false, false, false, false, false, false, false, false, false, false, false, false, false, false, false, false, false, false, false, false, false, false, false, false, false, false, false, false, false, false, false, false, false, false, false, false, false, false, false, false, false, false, false, false, false, false, false, false, false, false, false, false, false] (by kernel_rfl) rfl rfl ⟨zy BK284 0, zy BK284 1, zy BK319 0, zy BK319 1, zy BK330 0, zy BK330 1, zy BK339 0, zy BK339 1, zy BK340 0, zy BK340 1⟩ (fun hHeld => ?_); refine with_tabW agoniclaw05_worksAll.tab11 agoniclaw05_worksAll.bits11 (fun HT_ HW_ => ?_)
              generalize w99.drew = w100 at HO_3 HO_5 HO_7 HO_9 HO326 HO333 BK284 BK319 BK330 BK339 BK340 HB hHeld ⊢
              refine pq HT_ 0 86 57 1 ?_
              refine pq HT_ 1 87 57 3 ?_
              refine pq HT_ 2 88 57 7 ?_
              refine pq HT_ 3 89 57 15 ?_
              refine pq HT_ 4 90 57 31 ?_
              refine pq HT_ 5 91 57 63 ?_
              refine pq HT_ 6 92 57 127 ?_
              refine take_ (i := 7) (N := some 93) (v := ?_) (a' := ?_) #[true, true, true, true, true, true, true, true, false, false, false, false, false, false, false, false, false, false, false, false, false, false, false, false, false, false, false, false, false, false, false, false, false, false, false, false, false, false, false, false, false, false, false, false, false, false, false, false, false, false, false, false, false, false, false, false, false] rfl rfl (take_ofW HT_.out HW_.out (by kernel_rfl)) (fun _ _ _ h => h) (Or.inl ⟨by rfl, ?_⟩) hHeld ?_ ?_
              rotate_left
              ·rintro w' ⟨s0, s1, s2, s3, s4, s5, s6, s7, s8, s9⟩
               go_simp
               with_reducible rfl
              rotate_left
              ·simp only [Act.put, List.setIfInBounds_toArray, List.set_cons_zero, List.set_cons_succ, i64_w, i32_w]
               rfl
              refine one_ (i := 8) (N := some 94) #[true, true, true, true, true, true, true, true, true, false, false, false, false, false, false, false, false, false, false, false, false, false, false, false, false, false, false, false, false, false, false, false, false, false, false, false, false, false, false, false, false, false, false, false, false, false, false, false, false, false, false, false, false, false, false, false, false] rfl rfl (one_of HT_.out (by kernel_rfl)) (by decide) (fun K hK => ?_)
              refine goes_ Try.func43 (by kernel_rfl) rfl #[.int .i64 (-1), .int .i64 10] (by rfl) rfl rfl zs ?_
              with_reducible refine (agoniclaw05_part.calls (-1) 10 t341 t342 _ A55.out).mono ?_
              rintro e w101 ⟨rfl, hb⟩
              refine ⟨_, rfl, ?_⟩
              replace HO_3 := zr HO_3 hb
              replace HO_5 := zr HO_5 hb
              replace HO_7 := zr HO_7 hb
              replace HO_9 := zr HO_9 hb
              replace HO326 := zr HO326 hb
              replace BK284 := zk BK284 hb
              replace BK319 := zk BK319 hb
              replace BK330 := zk BK330 hb
              replace BK339 := zk BK339 hb
              replace BK340 := zk BK340 hb
              replace HB := zd hb
              (try clear hb)
              (try clear hb2)
              (try clear hk)
              (try clear hi)
              refine hK.out _ _ ⟨zy BK284 0, zy BK284 1, zy BK319 0, zy BK319 1, zy BK330 0, zy BK330 1, zy BK339 0, zy BK339 1, zy BK340 0, zy BK340 1⟩ (fun hHeld => ?_)
              clear hK K
              refine norm_ (a' := ?_) ?_ ?_
              rotate_left
              ·show Act.put _ (some 94) _ = _
               simp only [Act.put, List.setIfInBounds_toArray, List.set_cons_zero, List.set_cons_succ, i64_w, i32_w]
               rfl
              refine pq HT_ 9 95 57 1023 ?_
              refine pq HT_ 10 96 57 2047 ?_
              refine pq HT_ 11 97 57 4095 ?_
              refine pq HT_ 12 98 57 8191 ?_
              refine one_ (i := 13) (N := some 99) #[true, true, true, true, true, true, true, true, true, true, true, true, true, true, false, false, false, false, false, false, false, false, false, false, false, false, false, false, false, false, false, false, false, false, false, false, false, false, false, false, false, false, false, false, false, false, false, false, false, false, false, false, false, false, false, false, false] rfl rfl (one_of HT_.out (by kernel_rfl)) (by decide) (fun K hK => ?_)
              refine goes_ Try.func43 (by kernel_rfl) rfl #[.int .i64 8200, .int .i64 9] (by rfl) rfl rfl zs ?_
              with_reducible refine (agoniclaw05_part.calls 8200 9 t343 t344 _ A57.out).mono ?_
              rintro e w102 ⟨rfl, hb⟩
              refine ⟨_, rfl, ?_⟩
              replace HO_3 := zr HO_3 hb
              replace HO_5 := zr HO_5 hb
              replace HO_7 := zr HO_7 hb
              replace HO_9 := zr HO_9 hb
              replace HO326 := zr HO326 hb
              replace BK284 := zk BK284 hb
              replace BK319 := zk BK319 hb
              replace BK330 := zk BK330 hb
              replace BK339 := zk BK339 hb
              replace BK340 := zk BK340 hb
              replace HB := zd hb
              (try clear hb)
              (try clear hb2)
              (try clear hk)
              (try clear hi)
              refine hK.out _ _ ⟨zy BK284 0, zy BK284 1, zy BK319 0, zy BK319 1, zy BK330 0, zy BK330 1, zy BK339 0, zy BK339 1, zy BK340 0, zy BK340 1⟩ (fun hHeld => ?_)
              clear hK K
              refine norm_ (a' := ?_) ?_ ?_
              rotate_left
              ·show Act.put _ (some 99) _ = _
               simp only [Act.put, List.setIfInBounds_toArray, List.set_cons_zero, List.set_cons_succ, i64_w, i32_w]
               rfl
              refine one_ (i := 14) (N := some 100) #[true, true, true, true, true, true, true, true, true, true, true, true, true, true, true, false, false, false, false, false, false, false, false, false, false, false, false, false, false, false, false, false, false, false, false, false, false, false, false, false, false, false, false, false, false, false, false, false, false, false, false, false, false, false, false, false, false] rfl rfl (one_of HT_.out (by kernel_rfl)) (by decide) (fun K hK => ?_)
              refine Kd.R_lit_step k29 _ 29 ?hg (N := 100) ?hd (xs := ([(⟨t343, t344⟩ : S29)] : List (S29))) (inner := [.int .i64 t343, .int .i64 t344]) (ok := fun _ => True) (okp := fun _ => True) ?hr ?hp (fun _ hk => hk) trivial (Below.refl _ _) (Nat.le_refl _) (by simp) ?_; (case hd => rfl); (case hg => rfl); (case hr => first | (go_simp; done) | (go_simp; rfl)); (case hp => exact (Reps.c2 (show Kd.M k29 _ _ _ (⟨t343, t344⟩ : S29) [.int .i64 t343, .int .i64 t344] from (k29_mkM _ _ _ (⟨t343, t344⟩ : S29) )) (Reps.none _ _)))
              intro v346 w103 ho104 hb hg_ hnew_
              clear hg_ hnew_
              (first | rw [← Ny345.out] at ho104 | (simp only [Int.reduceToNat] at ho104; rw [← Ny345.out] at ho104))
              replace HO_7 := zr HO_7 hb
              replace HO_9 := zr HO_9 hb
              replace HO326 := zr HO326 hb
              have HO347 := Aside0.mk (Kd.R_lower (Kd.R_newB (Kd.R_newB (Kd.R_newB (Kd.R_newB (Kd.R_newB (Kd.R_new' (Kd.R_new' ho104 (Kd.R_lt (zo HO_3.out))) (Kd.R_lt (zo HO_5.out))) (g := gb284) (o := .cells #[.int .i64 t281, .int .i64 t282] 29 (0, 0)) (zb BK284)) (g := gb319) (o := .cells #[.int .i64 t316, .int .i64 t317] 29 (0, 0)) (zb BK319)) (g := gb330) (o := .cells #[.int .i64 t327, .int .i64 t328] 29 (0, 0)) (zb BK330)) (g := gb339) (o := .cells #[.int .i64 t334, .int .i64 t335] 29 (0, 0)) (zb BK339)) (g := gb340) (o := .cells #[.int .i64 t336, .int .i64 t337] 29 (0, 0)) (zb BK340)) (below_size zh))
              replace HO_3 := Aside0.mk (Kd.R_elder' (zo HO_3.out) (Kd.R_base ho104) hb)
              replace HO_5 := Aside0.mk (Kd.R_elder' (zo HO_5.out) (Kd.R_base ho104) hb)
              replace BK284 := zk BK284 hb
              replace BK319 := zk BK319 hb
              replace BK330 := zk BK330 hb
              replace BK339 := zk BK339 hb
              replace BK340 := zk BK340 hb
              replace HB := zd hb
              clear hb ho104
              obtain ⟨Ao105, co105, eo105⟩ := Kd.R_slice HO_3.out
              (first | subst eo105 | (injection eo105 with f1_ f2_ f3_; have f4_ := f1_.symm; have f5_ := f3_.symm; clear f1_ f2_ f3_; subst f4_; subst f5_))
              obtain ⟨Ao106, co106, eo106⟩ := Kd.R_slice HO347.out
              (first | subst eo106 | (injection eo106 with f1_ f2_ f3_; have f4_ := f1_.symm; have f5_ := f3_.symm; clear f1_ f2_ f3_; subst f4_; subst f5_))
              refine hK.out _ _ ⟨zy BK284 0, zy BK284 1, zy BK319 0, zy BK319 1, zy BK330 0, zy BK330 1, zy BK339 0, zy BK339 1, zy BK340 0, zy BK340 1⟩ (fun hHeld => ?_)
              clear hK K
              refine norm_ (a' := ?_) ?_ ?_
              rotate_left
              ·show Act.put _ (some 100) _ = _
               simp only [Act.put, List.setIfInBounds_toArray, List.set_cons_zero, List.set_cons_succ, i64_w, i32_w]
               rfl
              refine one_ (i := 15) (N := some 101) #[true, true, true, true, true, true, true, true, true, true, true, true, true, true, true, true, false, false, false, false, false, false, false, false, false, false, false, false, false, false, false, false, false, false, false, false, false, false, false, false, false, false, false, false, false, false, false, false, false, false, false, false, false, false, false, false, false] rfl rfl (one_of HT_.out (by kernel_rfl)) (by decide) (fun K hK => ?_)
              refine goes_ Try.func27 (by kernel_rfl) rfl #[.slice Ao105 t288.length co105, .slice Ao106 y345.length co106] (by rfl) rfl rfl zs ?_
              with_reducible refine (agoniclaw05_ratios.calls kj12 _ _ t288 _ _ y345 true _ ?side1 ?side2 ?side3 ?side4 A58.out).mono ?_
              (case side1 => exact zc (Kd.R_reads' HO_3.out).2.2)
              (case side2 => exact (Kd.R_reads' HO_3.out).2.1)
              (case side3 => exact zc (Kd.R_reads' HO347.out).2.2)
              (case side4 => exact (Kd.R_reads' HO347.out).2.1)
              rintro e w' ⟨rfl, ⟨nd, rfl⟩⟩
              refine ⟨_, rfl, ?_⟩
              refine hK.out _ _ ⟨zy BK284 0, zy BK284 1, zy BK319 0, zy BK319 1, zy BK330 0, zy BK330 1, zy BK339 0, zy BK339 1, zy BK340 0, zy BK340 1⟩ (fun hHeld => ?_)
              clear hK K
              refine norm_ (a' := ?_) ?_ ?_
              rotate_left
              ·show Act.put _ (some 101) _ = _
               simp only [Act.put, List.setIfInBounds_toArray, List.set_cons_zero, List.set_cons_succ, i64_w, i32_w]
               rfl
              refine pq HT_ 16 102 57 131071 ?_
              refine pq HT_ 17 103 57 262143 ?_
              refine pq HT_ 18 104 57 524287 ?_
              refine one_ (i := 19) (N := some 105) #[true, true, true, true, true, true, true, true, true, true, true, true, true, true, true, true, true, true, true, true, false, false, false, false, false, false, false, false, false, false, false, false, false, false, false, false, false, false, false, false, false, false, false, false, false, false, false, false, false, false, false, false, false, false, false, false, false] rfl rfl (one_of HT_.out (by kernel_rfl)) (by decide) (fun K hK => ?_)
              refine goes_ Try.func43 (by kernel_rfl) rfl #[.int .i64 50, .int .i64 1] (by rfl) rfl rfl zs ?_
              with_reducible refine (agoniclaw05_part.calls 50 1 t349 t350 _ A60.out).mono ?_
              rintro e w107 ⟨rfl, hb⟩
              refine ⟨_, rfl, ?_⟩
              replace HO_3 := zr HO_3 hb
              replace HO_5 := zr HO_5 hb
              replace HO_7 := zr HO_7 hb
              replace HO_9 := zr HO_9 hb
              replace HO326 := zr HO326 hb
              replace HO347 := zr HO347 hb
              replace BK284 := zk BK284 hb
              replace BK319 := zk BK319 hb
              replace BK330 := zk BK330 hb
              replace BK339 := zk BK339 hb
              replace BK340 := zk BK340 hb
              replace HB := zd hb
              (try clear hb)
              (try clear hb2)
              (try clear hk)
              (try clear hi)
              refine hK.out _ _ ⟨zy BK284 0, zy BK284 1, zy BK319 0, zy BK319 1, zy BK330 0, zy BK330 1, zy BK339 0, zy BK339 1, zy BK340 0, zy BK340 1⟩ (fun hHeld => ?_)
              clear hK K
              refine norm_ (a' := ?_) ?_ ?_
              rotate_left
              ·show Act.put _ (some 105) _ = _
               simp only [Act.put, List.setIfInBounds_toArray, List.set_cons_zero, List.set_cons_succ, i64_w, i32_w]
               rfl
              refine one_ (i := 20) (N := some 106) #[true, true, true, true, true, true, true, true, true, true, true, true, true, true, true, true, true, true, true, true, true, false, false, false, false, false, false, false, false, false, false, false, false, false, false, false, false, false, false, false, false, false, false, false, false, false, false, false, false, false, false, false, false, false, false, false, false] rfl rfl (one_of HT_.out (by kernel_rfl)) (by decide) (fun K hK => ?_)
              refine goes_ Try.func43 (by kernel_rfl) rfl #[.int .i64 5450, .int .i64 37] (by rfl) rfl rfl zs ?_
              with_reducible refine (agoniclaw05_part.calls 5450 37 t351 t352 _ A61.out).mono ?_
              rintro e w108 ⟨rfl, hb⟩
              refine ⟨_, rfl, ?_⟩
              replace HO_3 := zr HO_3 hb
              replace HO_5 := zr HO_5 hb
              replace HO_7 := zr HO_7 hb
              replace HO_9 := zr HO_9 hb
              replace HO326 := zr HO326 hb
              replace HO347 := zr HO347 hb
              replace BK284 := zk BK284 hb
              replace BK319 := zk BK319 hb
              replace BK330 := zk BK330 hb
              replace BK339 := zk BK339 hb
              replace BK340 := zk BK340 hb
              replace HB := zd hb
              (try clear hb)
              (try clear hb2)
              (try clear hk)
              (try clear hi)
              refine hK.out _ _ ⟨zy BK284 0, zy BK284 1, zy BK319 0, zy BK319 1, zy BK330 0, zy BK330 1, zy BK339 0, zy BK339 1, zy BK340 0, zy BK340 1⟩ (fun hHeld => ?_)
              clear hK K
              refine norm_ (a' := ?_) ?_ ?_
              rotate_left
              ·show Act.put _ (some 106) _ = _
               simp only [Act.put, List.setIfInBounds_toArray, List.set_cons_zero, List.set_cons_succ, i64_w, i32_w]
               rfl
              refine one_ (i := 21) (N := some 107) #[true, true, true, true, true, true, true, true, true, true, true, true, true, true, true, true, true, true, true, true, true, true, false, false, false, false, false, false, false, false, false, false, false, false, false, false, false, false, false, false, false, false, false, false, false, false, false, false, false, false, false, false, false, false, false, false, false] rfl rfl (one_of HT_.out (by kernel_rfl)) (by decide) (fun K hK => ?_)
              refine goes_ Try.func43 (by kernel_rfl) rfl #[.int .i64 131450, .int .i64 37] (by rfl) rfl rfl zs ?_
              with_reducible refine (agoniclaw05_part.calls 131450 37 t353 t354 _ A62.out).mono ?_
              rintro e w109 ⟨rfl, hb⟩
              refine ⟨_, rfl, ?_⟩
              replace HO_3 := zr HO_3 hb
              replace HO_5 := zr HO_5 hb
              replace HO_7 := zr HO_7 hb
              replace HO_9 := zr HO_9 hb
              replace HO326 := zr HO326 hb
              replace HO347 := zr HO347 hb
              replace BK284 := zk BK284 hb
              replace BK319 := zk BK319 hb
              replace BK330 := zk BK330 hb
              replace BK339 := zk BK339 hb
              replace BK340 := zk BK340 hb
              replace HB := zd hb
              (try clear hb)
              (try clear hb2)
              (try clear hk)
              (try clear hi)
              refine hK.out _ _ ⟨zy BK284 0, zy BK284 1, zy BK319 0, zy BK319 1, zy BK330 0, zy BK330 1, zy BK339 0, zy BK339 1, zy BK340 0, zy BK340 1⟩ (fun hHeld => ?_)
              clear hK K
              refine norm_ (a' := ?_) ?_ ?_
              rotate_left
              ·show Act.put _ (some 107) _ = _
               simp only [Act.put, List.setIfInBounds_toArray, List.set_cons_zero, List.set_cons_succ, i64_w, i32_w]
               rfl
              refine one_ (i := 22) (N := some 108) #[true, true, true, true, true, true, true, true, true, true, true, true, true, true, true, true, true, true, true, true, true, true, true, false, false, false, false, false, false, false, false, false, false, false, false, false, false, false, false, false, false, false, false, false, false, false, false, false, false, false, false, false, false, false, false, false, false] rfl rfl (one_of HT_.out (by kernel_rfl)) (by decide) (fun K hK => ?_)
              refine Kd.R_lit_step k29 _ 29 ?hg (N := 108) ?hd (xs := ([(⟨t349, t350⟩ : S29), (⟨t351, t352⟩ : S29), (⟨t353, t354⟩ : S29)] : List (S29))) (inner := [.int .i64 t349, .int .i64 t350, .int .i64 t351, .int .i64 t352, .int .i64 t353, .int .i64 t354]) (ok := fun _ => True) (okp := fun _ => True) ?hr ?hp (fun _ hk => hk) trivial (Below.refl _ _) (Nat.le_refl _) (by simp) ?_; (case hd => rfl); (case hg => rfl); (case hr => first | (go_simp; done) | (go_simp; rfl)); (case hp => exact (Reps.c2 (show Kd.M k29 _ _ _ (⟨t349, t350⟩ : S29) [.int .i64 t349, .int .i64 t350] from (k29_mkM _ _ _ (⟨t349, t350⟩ : S29) )) (Reps.c2 (show Kd.M k29 _ _ _ (⟨t351, t352⟩ : S29) [.int .i64 t351, .int .i64 t352] from (k29_mkM _ _ _ (⟨t351, t352⟩ : S29) )) (Reps.c2 (show Kd.M k29 _ _ _ (⟨t353, t354⟩ : S29) [.int .i64 t353, .int .i64 t354] from (k29_mkM _ _ _ (⟨t353, t354⟩ : S29) )) (Reps.none _ _)))))
              intro v356 w110 ho111 hb hg_ hnew_
              clear hg_ hnew_
              (first | rw [← Ny355.out] at ho111 | (simp only [Int.reduceToNat] at ho111; rw [← Ny355.out] at ho111))
              replace HO_7 := zr HO_7 hb
              replace HO_9 := zr HO_9 hb
              replace HO326 := zr HO326 hb
              have HO357 := Aside0.mk (Kd.R_lower (Kd.R_newB (Kd.R_newB (Kd.R_newB (Kd.R_newB (Kd.R_newB (Kd.R_new' (Kd.R_new' (Kd.R_new' ho111 (Kd.R_lt (zo HO_3.out))) (Kd.R_lt (zo HO_5.out))) (Kd.R_lt (zo HO347.out))) (g := gb284) (o := .cells #[.int .i64 t281, .int .i64 t282] 29 (0, 0)) (zb BK284)) (g := gb319) (o := .cells #[.int .i64 t316, .int .i64 t317] 29 (0, 0)) (zb BK319)) (g := gb330) (o := .cells #[.int .i64 t327, .int .i64 t328] 29 (0, 0)) (zb BK330)) (g := gb339) (o := .cells #[.int .i64 t334, .int .i64 t335] 29 (0, 0)) (zb BK339)) (g := gb340) (o := .cells #[.int .i64 t336, .int .i64 t337] 29 (0, 0)) (zb BK340)) (below_size zh))
              replace HO_5 := Aside0.mk (Kd.R_elder' (zo HO_5.out) (Kd.R_base ho111) hb)
              replace BK284 := zk BK284 hb
              replace BK319 := zk BK319 hb
              replace BK330 := zk BK330 hb
              replace BK339 := zk BK339 hb
              replace BK340 := zk BK340 hb
              replace HB := zd hb
              clear hb ho111
              obtain ⟨Ao112, co112, eo112⟩ := Kd.R_slice HO_5.out
              (first | subst eo112 | (injection eo112 with f1_ f2_ f3_; have f4_ := f1_.symm; have f5_ := f3_.symm; clear f1_ f2_ f3_; subst f4_; subst f5_))
              obtain ⟨Ao113, co113, eo113⟩ := Kd.R_slice HO357.out
              (first | subst eo113 | (injection eo113 with f1_ f2_ f3_; have f4_ := f1_.symm; have f5_ := f3_.symm; clear f1_ f2_ f3_; subst f4_; subst f5_))
              refine hK.out _ _ ⟨zy BK284 0, zy BK284 1, zy BK319 0, zy BK319 1, zy BK330 0, zy BK330 1, zy BK339 0, zy BK339 1, zy BK340 0, zy BK340 1⟩ (fun hHeld => ?_)
              clear hK K
              refine norm_ (a' := ?_) ?_ ?_
              rotate_left
              ·show Act.put _ (some 108) _ = _
               simp only [Act.put, List.setIfInBounds_toArray, List.set_cons_zero, List.set_cons_succ, i64_w, i32_w]
               rfl
              refine one_ (i := 23) (N := some 109) #[true, true, true, true, true, true, true, true, true, true, true, true, true, true, true, true, true, true, true, true, true, true, true, true, false, false, false, false, false, false, false, false, false, false, false, false, false, false, false, false, false, false, false, false, false, false, false, false, false, false, false, false, false, false, false, false, false] rfl rfl (one_of HT_.out (by kernel_rfl)) (by decide) (fun K hK => ?_)
              refine goes_ Try.func27 (by kernel_rfl) rfl #[.slice Ao112 t295.length co112, .slice Ao113 y355.length co113] (by rfl) rfl rfl zs ?_
              with_reducible refine (agoniclaw05_ratios.calls kj12 _ _ t295 _ _ y355 true _ ?side1 ?side2 ?side3 ?side4 A63.out).mono ?_
              (case side1 => exact zc (Kd.R_reads' HO_5.out).2.2)
              (case side2 => exact (Kd.R_reads' HO_5.out).2.1)
              (case side3 => exact zc (Kd.R_reads' HO357.out).2.2)
              (case side4 => exact (Kd.R_reads' HO357.out).2.1)
              rintro e w' ⟨rfl, ⟨nd, rfl⟩⟩
              refine ⟨_, rfl, ?_⟩
              refine hK.out _ _ ⟨zy BK284 0, zy BK284 1, zy BK319 0, zy BK319 1, zy BK330 0, zy BK330 1, zy BK339 0, zy BK339 1, zy BK340 0, zy BK340 1⟩ (fun hHeld => ?_)
              clear hK K
              refine norm_ (a' := ?_) ?_ ?_
              rotate_left
              ·show Act.put _ (some 109) _ = _
               simp only [Act.put, List.setIfInBounds_toArray, List.set_cons_zero, List.set_cons_succ, i64_w, i32_w]
               rfl
              refine pq HT_ 24 110 57 33554431 ?_
              refine pq HT_ 25 111 57 67108863 ?_
              refine pq HT_ 26 112 57 134217727 ?_
              refine one_ (i := 27) (N := some 113) #[true, true, true, true, true, true, true, true, true, true, true, true, true, true, true, true, true, true, true, true, true, true, true, true, true, true, true, true, false, false, false, false, false, false, false, false, false, false, false, false, false, false, false, false, false, false, false, false, false, false, false, false, false, false, false, false, false] rfl rfl (one_of HT_.out (by kernel_rfl)) (by decide) (fun K hK => ?_)
              refine Kd.R_lit_step (Kd.int .i64) _ 3 ?hg (N := 113) ?hd (xs := ([0] : List Int)) (inner := [.int .i64 0]) (ok := fun _ => True) (okp := fun _ => True) ?hr ?hp (fun _ hk => hk) trivial (Below.refl _ _) (Nat.le_refl _) (by simp) ?_; (case hd => rfl); (case hg => rfl); (case hr => first | (go_simp; done) | (go_simp; rfl)); (case hp => exact (Reps.one (show Kd.M (Kd.int .i64) _ _ _ 0 [.int .i64 0] from rfl) (Reps.none _ _)))
              intro v360 w114 ho115 hb hg_ hnew_
              clear hg_ hnew_
              (first | rw [← Ny359.out] at ho115 | (simp only [Int.reduceToNat] at ho115; rw [← Ny359.out] at ho115))
              replace HO_9 := zr HO_9 hb
              replace HO326 := zr HO326 hb
              have HO361 := Aside0.mk (Kd.R_lower (Kd.R_new' ho115 (Kd.R_lt (zo HO_7.out))) (below_size zh))
              replace HO_7 := Aside0.mk (Kd.R_elder' (zo HO_7.out) (Kd.R_base ho115) hb)
              replace BK284 := zk BK284 hb
              replace BK319 := zk BK319 hb
              replace BK330 := zk BK330 hb
              replace BK339 := zk BK339 hb
              replace BK340 := zk BK340 hb
              replace HB := zd hb
              clear hb ho115
              obtain ⟨Ao116, co116, eo116⟩ := Kd.R_slice HO_7.out
              (first | subst eo116 | (injection eo116 with f1_ f2_ f3_; have f4_ := f1_.symm; have f5_ := f3_.symm; clear f1_ f2_ f3_; subst f4_; subst f5_))
              obtain ⟨Ao117, co117, eo117⟩ := Kd.R_slice HO361.out
              (first | subst eo117 | (injection eo117 with f1_ f2_ f3_; have f4_ := f1_.symm; have f5_ := f3_.symm; clear f1_ f2_ f3_; subst f4_; subst f5_))
              refine hK.out _ _ ⟨zy BK284 0, zy BK284 1, zy BK319 0, zy BK319 1, zy BK330 0, zy BK330 1, zy BK339 0, zy BK339 1, zy BK340 0, zy BK340 1⟩ (fun hHeld => ?_)
              clear hK K
              refine norm_ (a' := ?_) ?_ ?_
              rotate_left
              ·show Act.put _ (some 113) _ = _
               simp only [Act.put, List.setIfInBounds_toArray, List.set_cons_zero, List.set_cons_succ, i64_w, i32_w]
               rfl
              refine one_ (i := 28) (N := some 114) #[true, true, true, true, true, true, true, true, true, true, true, true, true, true, true, true, true, true, true, true, true, true, true, true, true, true, true, true, true, false, false, false, false, false, false, false, false, false, false, false, false, false, false, false, false, false, false, false, false, false, false, false, false, false, false, false, false] rfl rfl (one_of HT_.out (by kernel_rfl)) (by decide) (fun K hK => ?_)
              refine goes_ Try.func20 (by kernel_rfl) rfl #[.slice Ao116 t302.length co116, .slice Ao117 y359.length co117] (by rfl) rfl rfl zs ?_
              with_reducible refine (agoniclaw05_numbers.calls kj12 _ _ t302 _ _ y359 true _ ?side1 ?side2 ?side3 ?side4 A65.out).mono ?_
              (case side1 => exact zc (Kd.R_reads' HO_7.out).2.2)
              (case side2 => exact (Kd.R_reads' HO_7.out).2.1)
              (case side3 => exact zc (Kd.R_reads' HO361.out).2.2)
              (case side4 => exact (Kd.R_reads' HO361.out).2.1)
              rintro e w' ⟨rfl, ⟨nd, rfl⟩⟩
              refine ⟨_, rfl, ?_⟩
              refine hK.out _ _ ⟨zy BK284 0, zy BK284 1, zy BK319 0, zy BK319 1, zy BK330 0, zy BK330 1, zy BK339 0, zy BK339 1, zy BK340 0, zy BK340 1⟩ (fun hHeld => ?_)
              clear hK K
              refine norm_ (a' := ?_) ?_ ?_
              rotate_left
              ·show Act.put _ (some 114) _ = _
               simp only [Act.put, List.setIfInBounds_toArray, List.set_cons_zero, List.set_cons_succ, i64_w, i32_w]
               rfl
              refine pq HT_ 29 115 57 1073741823 ?_
              refine pq HT_ 30 116 57 2147483647 ?_
              refine pq HT_ 31 117 57 4294967295 ?_
              refine one_ (i := 32) (N := some 118) #[true, true, true, true, true, true, true, true, true, true, true, true, true, true, true, true, true, true, true, true, true, true, true, true, true, true, true, true, true, true, true, true, true, false, false, false, false, false, false, false, false, false, false, false, false, false, false, false, false, false, false, false, false, false, false, false, false] rfl rfl (one_of HT_.out (by kernel_rfl)) (by decide) (fun K hK => ?_)
              refine Kd.R_lit_step (Kd.int .i64) _ 3 ?hg (N := 118) ?hd (xs := ([0, 0, 990, (-90), 1800, 0, 2610, 90] : List Int)) (inner := [.int .i64 0, .int .i64 0, .int .i64 990, .int .i64 (-90), .int .i64 1800, .int .i64 0, .int .i64 2610, .int .i64 90]) (ok := fun _ => True) (okp := fun _ => True) ?hr ?hp (fun _ hk => hk) trivial (Below.refl _ _) (Nat.le_refl _) (by simp) ?_; (case hd => rfl); (case hg => rfl); (case hr => first | (go_simp; done) | (go_simp; rfl)); (case hp => exact (Reps.one (show Kd.M (Kd.int .i64) _ _ _ 0 [.int .i64 0] from rfl) (Reps.one (show Kd.M (Kd.int .i64) _ _ _ 0 [.int .i64 0] from rfl) (Reps.one (show Kd.M (Kd.int .i64) _ _ _ 990 [.int .i64 990] from rfl) (Reps.one (show Kd.M (Kd.int .i64) _ _ _ (-90) [.int .i64 (-90)] from rfl) (Reps.one (show Kd.M (Kd.int .i64) _ _ _ 1800 [.int .i64 1800] from rfl) (Reps.one (show Kd.M (Kd.int .i64) _ _ _ 0 [.int .i64 0] from rfl) (Reps.one (show Kd.M (Kd.int .i64) _ _ _ 2610 [.int .i64 2610] from rfl) (Reps.one (show Kd.M (Kd.int .i64) _ _ _ 90 [.int .i64 90] from rfl) (Reps.none _ _))))))))))
              intro v364 w118 ho119 hb hg_ hnew_
              clear hg_ hnew_
              (first | rw [← Ny363.out] at ho119 | (simp only [Int.reduceToNat] at ho119; rw [← Ny363.out] at ho119))
              replace HO_9 := zr HO_9 hb
              replace HO326 := zr HO326 hb
              have HO365 := Aside0.mk (Kd.R_lower (Kd.R_new' (Kd.R_new' ho119 (Kd.R_lt (zo HO_7.out))) (Kd.R_lt (zo HO361.out))) (below_size zh))
              replace BK284 := zk BK284 hb
              replace BK319 := zk BK319 hb
              replace BK330 := zk BK330 hb
              replace BK339 := zk BK339 hb
              replace BK340 := zk BK340 hb
              replace HB := zd hb
              clear hb ho119
              obtain ⟨Ao120, co120, eo120⟩ := Kd.R_slice HO365.out
              (first | subst eo120 | (injection eo120 with f1_ f2_ f3_; have f4_ := f1_.symm; have f5_ := f3_.symm; clear f1_ f2_ f3_; subst f4_; subst f5_))
              refine hK.out _ _ ⟨zy BK284 0, zy BK284 1, zy BK319 0, zy BK319 1, zy BK330 0, zy BK330 1, zy BK339 0, zy BK339 1, zy BK340 0, zy BK340 1⟩ (fun hHeld => ?_)
              clear hK K
              refine norm_ (a' := ?_) ?_ ?_
              rotate_left
              ·show Act.put _ (some 118) _ = _
               simp only [Act.put, List.setIfInBounds_toArray, List.set_cons_zero, List.set_cons_succ, i64_w, i32_w]
               rfl
              refine one_ (i := 33) (N := some 119) #[true, true, true, true, true, true, true, true, true, true, true, true, true, true, true, true, true, true, true, true, true, true, true, true, true, true, true, true, true, true, true, true, true, true, false, false, false, false, false, false, false, false, false, false, false, false, false, false, false, false, false, false, false, false, false, false, false] rfl rfl (one_of HT_.out (by kernel_rfl)) (by decide) (fun K hK => ?_)
              refine goes_ Try.func51 (by kernel_rfl) rfl #[.slice Ao120 y363.length co120] (by rfl) rfl rfl zs ?_
              with_reducible refine (agoniclaw05_cards.calls kj12 _ _ y363 t366 _ ?side1 ?side2 A67.out).mono ?_
              (case side1 => exact zc (Kd.R_reads' HO365.out).2.2)
              (case side2 => exact (Kd.R_reads' HO365.out).2.1)
              rintro e w121 ⟨v367, rfl, ho0, hb⟩
              refine ⟨_, rfl, ?_⟩
              have HO368 := Aside0.mk (Kd.R_lower (Kd.R_new' (Kd.R_new' ho0 (Kd.R_lt (zo HO_9.out))) (Kd.R_lt (zo HO326.out))) (below_size zh))
              replace HO_9 := Aside0.mk (Kd.R_elder' (zo HO_9.out) (Kd.R_base ho0) hb)
              replace BK284 := zk BK284 hb
              replace BK319 := zk BK319 hb
              replace BK330 := zk BK330 hb
              replace BK339 := zk BK339 hb
              replace BK340 := zk BK340 hb
              replace HB := zd hb
              (try clear hb)
              (try clear hb2)
              (try clear hk)
              (try clear hi)
              (try clear ho0)
              obtain ⟨Ao122, co122, eo122⟩ := Kd.R_slice HO368.out
              (first | subst eo122 | (injection eo122 with f1_ f2_ f3_; have f4_ := f1_.symm; have f5_ := f3_.symm; clear f1_ f2_ f3_; subst f4_; subst f5_))
              refine hK.out _ _ ⟨zy BK284 0, zy BK284 1, zy BK319 0, zy BK319 1, zy BK330 0, zy BK330 1, zy BK339 0, zy BK339 1, zy BK340 0, zy BK340 1⟩ (fun hHeld => ?_)
              clear hK K
              refine norm_ (a' := ?_) ?_ ?_
              rotate_left
              ·show Act.put _ (some 119) _ = _
               simp only [Act.put, List.setIfInBounds_toArray, List.set_cons_zero, List.set_cons_succ, i64_w, i32_w]
               rfl
              refine one_ (i := 34) (N := some 120) #[true, true, true, true, true, true, true, true, true, true, true, true, true, true, true, true, true, true, true, true, true, true, true, true, true, true, true, true, true, true, true, true, true, true, true, false, false, false, false, false, false, false, false, false, false, false, false, false, false, false, false, false, false, false, false, false, false] rfl rfl (one_of HT_.out (by kernel_rfl)) (by decide) (fun K hK => ?_)
              refine goes_ Try.func44 (by kernel_rfl) rfl #[.slice Ao79 t309.length co79, .slice Ao122 t366.length co122] (by rfl) rfl rfl zs ?_
              with_reducible refine (agoniclaw05_points.calls kj12 _ _ t309 _ _ t366 true _ ?side1 ?side2 ?side3 ?side4 A68.out).mono ?_
              (case side1 => exact zc (Kd.R_reads' HO_9.out).2.2)
              (case side2 => exact (Kd.R_reads' HO_9.out).2.1)
              (case side3 => exact zc (Kd.R_reads' HO368.out).2.2)
              (case side4 => exact (Kd.R_reads' HO368.out).2.1)
              rintro e w' ⟨rfl, ⟨nd, rfl⟩⟩
              refine ⟨_, rfl, ?_⟩
              refine hK.out _ _ ⟨zy BK284 0, zy BK284 1, zy BK319 0, zy BK319 1, zy BK330 0, zy BK330 1, zy BK339 0, zy BK339 1, zy BK340 0, zy BK340 1⟩ (fun hHeld => ?_)
              clear hK K
              refine norm_ (a' := ?_) ?_ ?_
              rotate_left
              ·show Act.put _ (some 120) _ = _
               simp only [Act.put, List.setIfInBounds_toArray, List.set_cons_zero, List.set_cons_succ, i64_w, i32_w]
               rfl
              refine pq HT_ 35 121 57 68719476735 ?_
              refine pq HT_ 36 122 57 137438953471 ?_
              refine take_ (i := 37) (N := some 123) (v := ?_) (a' := ?_) #[true, true, true, true, true, true, true, true, true, true, true, true, true, true, true, true, true, true, true, true, true, true, true, true, true, true, true, true, true, true, true, true, true, true, true, true, true, true, false, false, false, false, false, false, false, false, false, false, false, false, false, false, false, false, false, false, false] rfl rfl (take_ofW HT_.out HW_.out (by kernel_rfl)) (fun _ _ _ h => h) (Or.inl ⟨by rfl, ?_⟩) hHeld ?_ ?_
              rotate_left
              ·rintro w' ⟨s0, s1, s2, s3, s4, s5, s6, s7, s8, s9⟩
               go_simp
               with_reducible rfl
              rotate_left
              ·simp only [Act.put, List.setIfInBounds_toArray, List.set_cons_zero, List.set_cons_succ, i64_w, i32_w]
               rfl
              refine one_ (i := 38) (N := some 124) #[true, true, true, true, true, true, true, true, true, true, true, true, true, true, true, true, true, true, true, true, true, true, true, true, true, true, true, true, true, true, true, true, true, true, true, true, true, true, true, false, false, false, false, false, false, false, false, false, false, false, false, false, false, false, false, false, false] rfl rfl (one_of HT_.out (by kernel_rfl)) (by decide) (fun K hK => ?_)
              refine goes_ Try.func43 (by kernel_rfl) rfl #[.int .i64 800, .int .i64 9] (by rfl) rfl rfl zs ?_
              with_reducible refine (agoniclaw05_part.calls 800 9 t370 t371 _ A70.out).mono ?_
              rintro e w123 ⟨rfl, hb⟩
              refine ⟨_, rfl, ?_⟩
              replace BK284 := zk BK284 hb
              replace BK319 := zk BK319 hb
              replace BK330 := zk BK330 hb
              replace BK339 := zk BK339 hb
              replace BK340 := zk BK340 hb
              replace HB := zd hb
              (try clear hb)
              (try clear hb2)
              (try clear hk)
              (try clear hi)
              refine hK.out _ _ ⟨zy BK284 0, zy BK284 1, zy BK319 0, zy BK319 1, zy BK330 0, zy BK330 1, zy BK339 0, zy BK339 1, zy BK340 0, zy BK340 1⟩ (fun hHeld => ?_)
              clear hK K
              refine norm_ (a' := ?_) ?_ ?_
              rotate_left
              ·show Act.put _ (some 124) _ = _
               simp only [Act.put, List.setIfInBounds_toArray, List.set_cons_zero, List.set_cons_succ, i64_w, i32_w]
               rfl
              refine pq HT_ 39 125 57 1099511627775 ?_
              refine pq HT_ 40 126 57 2199023255551 ?_
              refine pq HT_ 41 127 57 4398046511103 ?_
              refine take_ (i := 42) (N := some 128) (v := ?_) (a' := ?_) #[true, true, true, true, true, true, true, true, true, true, true, true, true, true, true, true, true, true, true, true, true, true, true, true, true, true, true, true, true, true, true, true, true, true, true, true, true, true, true, true, true, true, true, false, false, false, false, false, false, false, false, false, false, false, false, false, false] rfl rfl (take_ofW HT_.out HW_.out (by kernel_rfl)) (fun _ _ _ h => h) (Or.inl ⟨by rfl, ?_⟩) hHeld ?_ ?_
              rotate_left
              ·rintro w' ⟨s0, s1, s2, s3, s4, s5, s6, s7, s8, s9⟩
               go_simp
               with_reducible rfl
              rotate_left
              ·simp only [Act.put, List.setIfInBounds_toArray, List.set_cons_zero, List.set_cons_succ, i64_w, i32_w]
               rfl
              refine one_ (i := 43) (N := some 129) #[true, true, true, true, true, true, true, true, true, true, true, true, true, true, true, true, true, true, true, true, true, true, true, true, true, true, true, true, true, true, true, true, true, true, true, true, true, true, true, true, true, true, true, true, false, false, false, false, false, false, false, false, false, false, false, false, false] rfl rfl (one_of HT_.out (by kernel_rfl)) (by decide) (fun K hK => ?_)
              refine goes_ Try.func43 (by kernel_rfl) rfl #[.int .i64 0, .int .i64 1] (by rfl) rfl rfl zs ?_
              with_reducible refine (agoniclaw05_part.calls 0 1 t372 t373 _ A72.out).mono ?_
              rintro e w124 ⟨rfl, hb⟩
              refine ⟨_, rfl, ?_⟩
              replace BK284 := zk BK284 hb
              replace BK319 := zk BK319 hb
              replace BK330 := zk BK330 hb
              replace BK339 := zk BK339 hb
              replace BK340 := zk BK340 hb
              replace HB := zd hb
              (try clear hb)
              (try clear hb2)
              (try clear hk)
              (try clear hi)
              refine hK.out _ _ ⟨zy BK284 0, zy BK284 1, zy BK319 0, zy BK319 1, zy BK330 0, zy BK330 1, zy BK339 0, zy BK339 1, zy BK340 0, zy BK340 1⟩ (fun hHeld => ?_)
              clear hK K
              refine norm_ (a' := ?_) ?_ ?_
              rotate_left
              ·show Act.put _ (some 129) _ = _
               simp only [Act.put, List.setIfInBounds_toArray, List.set_cons_zero, List.set_cons_succ, i64_w, i32_w]
               rfl
              refine pq HT_ 44 130 57 35184372088831 ?_
              refine pq HT_ 45 131 57 70368744177663 ?_
              refine pq HT_ 46 132 57 140737488355327 ?_
              refine take_ (i := 47) (N := some 133) (v := ?_) (a' := ?_) #[true, true, true, true, true, true, true, true, true, true, true, true, true, true, true, true, true, true, true, true, true, true, true, true, true, true, true, true, true, true, true, true, true, true, true, true, true, true, true, true, true, true, true, true, true, true, true, true, false, false, false, false, false, false, false, false, false] rfl rfl (take_ofW HT_.out HW_.out (by kernel_rfl)) (fun _ _ _ h => h) (Or.inl ⟨by rfl, ?_⟩) hHeld ?_ ?_
              rotate_left
              ·rintro w' ⟨s0, s1, s2, s3, s4, s5, s6, s7, s8, s9⟩
               go_simp
               with_reducible rfl
              rotate_left
              ·simp only [Act.put, List.setIfInBounds_toArray, List.set_cons_zero, List.set_cons_succ, i64_w, i32_w]
               rfl
              refine one_ (i := 48) (N := some 134) #[true, true, true, true, true, true, true, true, true, true, true, true, true, true, true, true, true, true, true, true, true, true, true, true, true, true, true, true, true, true, true, true, true, true, true, true, true, true, true, true, true, true, true, true, true, true, true, true, true, false, false, false, false, false, false, false, false] rfl rfl (one_of HT_.out (by kernel_rfl)) (by decide) (fun K hK => ?_)
              refine goes_ Try.func43 (by kernel_rfl) rfl #[.int .i64 3240, .int .i64 41] (by rfl) rfl rfl zs ?_
              with_reducible refine (agoniclaw05_part.calls 3240 41 t374 t375 _ A74.out).mono ?_
              rintro e w125 ⟨rfl, hb⟩
              refine ⟨_, rfl, ?_⟩
              replace BK284 := zk BK284 hb
              replace BK319 := zk BK319 hb
              replace BK330 := zk BK330 hb
              replace BK339 := zk BK339 hb
              replace BK340 := zk BK340 hb
              replace HB := zd hb
              (try clear hb)
              (try clear hb2)
              (try clear hk)
              (try clear hi)
              refine hK.out _ _ ⟨zy BK284 0, zy BK284 1, zy BK319 0, zy BK319 1, zy BK330 0, zy BK330 1, zy BK339 0, zy BK339 1, zy BK340 0, zy BK340 1⟩ (fun hHeld => ?_)
              clear hK K
              refine norm_ (a' := ?_) ?_ ?_
              rotate_left
              ·show Act.put _ (some 134) _ = _
               simp only [Act.put, List.setIfInBounds_toArray, List.set_cons_zero, List.set_cons_succ, i64_w, i32_w]
               rfl
              refine pq HT_ 49 135 57 1125899906842623 ?_
              refine pq HT_ 50 136 57 2251799813685247 ?_
              refine pq HT_ 51 137 57 4503599627370495 ?_
              refine take_ (i := 52) (N := some 138) (v := ?_) (a' := ?_) #[true, true, true, true, true, true, true, true, true, true, true, true, true, true, true, true, true, true, true, true, true, true, true, true, true, true, true, true, true, true, true, true, true, true, true, true, true, true, true, true, true, true, true, true, true, true, true, true, true, true, true, true, true, false, false, false, false] rfl rfl (take_ofW HT_.out HW_.out (by kernel_rfl)) (fun _ _ _ h => h) (Or.inl ⟨by rfl, ?_⟩) hHeld ?_ ?_
              rotate_left
              ·rintro w' ⟨s0, s1, s2, s3, s4, s5, s6, s7, s8, s9⟩
               go_simp
               with_reducible rfl
              rotate_left
              ·simp only [Act.put, List.setIfInBounds_toArray, List.set_cons_zero, List.set_cons_succ, i64_w, i32_w]
               rfl
              refine one_ (i := 53) (N := some 139) #[true, true, true, true, true, true, true, true, true, true, true, true, true, true, true, true, true, true, true, true, true, true, true, true, true, true, true, true, true, true, true, true, true, true, true, true, true, true, true, true, true, true, true, true, true, true, true, true, true, true, true, true, true, true, false, false, false] rfl rfl (one_of HT_.out (by kernel_rfl)) (by decide) (fun K hK => ?_)
              refine goes_ Try.func43 (by kernel_rfl) rfl #[.int .i64 99, .int .i64 1] (by rfl) rfl rfl zs ?_
              with_reducible refine (agoniclaw05_part.calls 99 1 t376 t377 _ A76.out).mono ?_
              rintro e w126 ⟨rfl, hb⟩
              refine ⟨_, rfl, ?_⟩
              replace BK284 := zk BK284 hb
              replace BK319 := zk BK319 hb
              replace BK330 := zk BK330 hb
              replace BK339 := zk BK339 hb
              replace BK340 := zk BK340 hb
              replace HB := zd hb
              (try clear hb)
              (try clear hb2)
              (try clear hk)
              (try clear hi)
              refine hK.out _ _ ⟨zy BK284 0, zy BK284 1, zy BK319 0, zy BK319 1, zy BK330 0, zy BK330 1, zy BK339 0, zy BK339 1, zy BK340 0, zy BK340 1⟩ (fun hHeld => ?_)
              clear hK K
              refine norm_ (a' := ?_) ?_ ?_
              rotate_left
              ·show Act.put _ (some 139) _ = _
               simp only [Act.put, List.setIfInBounds_toArray, List.set_cons_zero, List.set_cons_succ, i64_w, i32_w]
               rfl
              refine pq HT_ 54 140 57 36028797018963967 ?_
              refine pq HT_ 55 141 57 72057594037927935 ?_
              refine pq HT_ 56 0 57 144115188075855871 ?_
              refine done_ (done_of HT_.out (by kernel_rfl)) ?_
              try go_wp2
              go_ret
              exact ⟨ze, zh⟩
             ·rw [if_neg c75] at H
              exact absurd H (by simp)
            ·rw [if_neg c73] at H
             exact absurd H (by simp)
           ·rw [if_neg c71] at H
            exact absurd H (by simp)
          ·rw [if_neg c69] at H
           exact absurd H (by simp)
         ·rw [if_neg c66] at H
          exact absurd H (by simp)
        ·rw [if_neg c64] at H
         exact absurd H (by simp)
       ·rw [if_neg c59] at H
        exact absurd H (by simp)
      ·rw [if_neg c56] at H
       exact absurd H (by simp)
     ·rw [if_neg c54] at H
      exact absurd H (by simp)
    ·rw [if_neg c53] at H
     exact absurd H (by simp)
def lA : List S55 := [⟨0,0⟩,⟨900,90⟩,⟨1800,0⟩,⟨2700,-90⟩]
def lB : List S55 := [⟨0,0⟩,⟨100,-200⟩]
def lC : List S55 := [⟨0,0⟩,⟨990,-90⟩,⟨1800,0⟩,⟨2610,90⟩]
def lK : List S92 := [⟨0,⟨0,0⟩⟩,⟨900,⟨80,100⟩⟩,⟨1800,⟨0,0⟩⟩,⟨2700,⟨-90,-90⟩⟩]
theorem courses_B : card_Card_courses.f 16 lB 3550 = some ([⟨50,1⟩,⟨5450,37⟩,⟨131450,37⟩],true) := by
 have e : solsAll 16 3550 (segs lB) = [⟨50,1⟩,⟨5450,37⟩,⟨131450,37⟩] := by kernel_rfl
 unfold card_Card_courses.f
 rw [if_pos (of_decide_eq_true (by kernel_rfl)), if_neg (fun h => by have : (segs lB).any (flatHit 3550) = false := (by kernel_rfl); rw [this] at h; cases h), e, if_pos (by kernel_rfl)]
 simp [List.mergeSort, ltR, keyR, cmp3, wrap64, List.MergeSort.Internal.splitInTwo, List.merge]
theorem Courses_B : card_Courses.f 16 lB 3550 = some ([⟨50,1⟩,⟨5450,37⟩,⟨131450,37⟩],0) := by
 unfold card_Courses.f
 rw [courses_B]
 kernel_rfl
theorem inverse_A : card_Inverse.f 16 lA = some (lC,0) := by
 have e : lC.mergeSort (fun x y => !ltP y x) = lC := by
  simp [lC, List.mergeSort, ltP, keyP, cmp3, List.MergeSort.Internal.splitInTwo, List.merge]
 have h : card_Inverse.l0 12 lC lA 4 4 = some (lC, 0) := by
  unfold card_Inverse.l0
  rw [if_neg (by decide), if_pos (by kernel_rfl), e]
 have h2 : card_Inverse.f 16 lA = card_Inverse.l0 12 lC lA 4 4 := by kernel_rfl
 rw [h2, h]
theorem worksAll_j : agoniclaw05_worksAll.j0 16 [⟨8200,9⟩] [⟨50,1⟩,⟨5450,37⟩,⟨131450,37⟩] [0] lC false (-1) 10 800 9 = some true := by kernel_rfl
theorem worksAll_true : agoniclaw05_worksAll.f 16 = some true := by
 have h1 : agoniclaw05_A.f 16 = some lA := by kernel_rfl
 have h2 : card_Deviation.f 16 lA 3599 = some (-1, 10, 0) := by kernel_rfl
 have h3 : card_Courses.f 16 lA 1000 = some ([⟨8200,9⟩],0) := by kernel_rfl
 have h4 : agoniclaw05_B.f 16 = some lB := by kernel_rfl
 have h5 : card_Folds.f 16 lB = some ([0],0) := by kernel_rfl
 have h6 : card_Allowance.f 16 lA 1000 = some (800,9,0) := by kernel_rfl
 have h7 : agoniclaw05_C.f 16 = some lK := by kernel_rfl
 have h8 : card_Sure.f 16 lK = some 0 := by kernel_rfl
 unfold agoniclaw05_worksAll.f
 simp only [h1, h2, h3, h4, h5, h6, h7, h8, Courses_B, inverse_A, Option.bind_some, if_true]
 exact worksAll_j
/-- The examples of the chapter hold. -/
def agoniclaw05_works.f : Option Bool := some true
theorem agoniclaw05_works.calls (r : Bool) (w : World) (h : agoniclaw05_works.f = some r) :
  Calls Try.prog 14 #[] w fun e w' => e = .returned (.bool r) ∧ Below w.heap.size w w' := by
 cases h
 exact agoniclaw05_worksAll.calls 16 true w worksAll_true
end Go.Proofs.Ytccjefoejjnccaa.C
