-- Written by a program of this session (wip/tools/myprint.py, over the kit's print).
import Derived.Test.YtccjefoejjnccaaC0
import Derived.Test.YtccjefoejjnccaaC6
import Derived.Test.YtccjefoejjnccaaZ
namespace Go.Proofs.Ytccjefoejjnccaa.C
open Go.RowKit Go.Proofs.YtccjefoejjnccaaW.PrintWords Go.Proofs.YtccjefoejjnccaaW.PrintLast Go.Proofs.YtccjefoejjnccaaW.PrintMore
attribute [local go_sem] max2_int min2_int max_two min_two max_three min_three max_four min_four   -- for this text's walks alone
set_option linter.unusedVariables false
set_option linter.unusedSimpArgs false
def agoniclaw05_known.l0 : Nat → List (S92) → List (S124) → Int → Option ((List (S124)))
 | 0, _, _, _ => none
 | k + 1, x0, x3, x4 => if x4 < (x0.length : Int) then (if 0 ≤ x4 then (if x3.length < 5864062014805 then (agoniclaw05_known.l0 k x0 (x3 ++ [(⟨(rd_T92 x0 x4).f0, (⟨(rd_T92 x0 x4).f1.f0, (rd_T92 x0 x4).f1.f1⟩ : S90)⟩ : S124)]) (wrap64 (x4 + 1))) else (none)) else (none)) else (some x3)
def agoniclaw05_known.f (k : Nat) (l0 : List (S92)) : Option ((List (S124))) := agoniclaw05_known.l0 k l0 ([] : List (S124)) 0
set_option maxHeartbeats 8000000 in
set_option maxRecDepth 100000 in
theorem agoniclaw05_known.calls (k : Nat) (A0 : Option Addr) (c0 : Nat) (l0 : List (S92)) (r : List (S124)) (w : World) (hr0 : Kd.C k92 w A0 l0.length l0) (hc0 : l0.length ≤ c0) (h : agoniclaw05_known.f k l0 = some r) :
  Calls Try.prog 32 #[.slice A0 l0.length c0] w fun e w' => ∃ v0_ : Value, e = .returned (v0_) ∧ Kd.R k124 124 w' w.heap.size (fun _ => True) v0_ r ∧ Below w.heap.size w w' := by
 have hu92 := Try.underlying92
 have HR0 := Aside0.mk hr0
 have HC0 := Aside0.mk hc0
 clear hr0 hc0
 have HB := Aside0.mk (Below.refl w.heap.size w)
 have H : (agoniclaw05_known.l0 k l0 ([] : List (S124)) 0) = some r := h
 clear h
 have H' := Aside0.mk H
 clear H
 go_enter Try.func32, Try.ntmps32
 go_wp2
 go_loopg [3, 4] k (fun kq v3 v4 w' => ∃ (x3_1 : List (S124)) (x4_1 : Int), v4 = .int .i64 x4_1 ∧ Aside0 (agoniclaw05_known.l0 kq l0 x3_1 x4_1 = some r) ∧ Aside0 (kq ≤ k) ∧ Aside0 (Kd.R k124 124 w' w.heap.size (fun _ => True) v3 x3_1) ∧ Aside0 (Below w.heap.size w w'))
 case atStart => exact ⟨(([] : List (S124))), (0), (by first | rfl | (simp; done) | (simp [*]; done)), H', ⟨Nat.le_refl _⟩, ⟨by first | exact Kd.R_nil _ _ _ _ _ | exact Kd.N_nil _ _ _ _ _ | exact Kd.V_nil _ _ _ _ _ | exact Kd.Q_nil _ _ _ _ _ | exact Kd.S_nil _ _ _ _ _⟩, ⟨zh⟩⟩
 case round =>
  clear H'
  obtain ⟨x3_1, x4_1, rfl, HA, HK1, HO_3, HB⟩ := hrel
  cases gk with
  | zero => exact absurd HA.out (by simp [agoniclaw05_known.l0])
  | succ k1 =>
   have H := HA.out
   clear HA
   simp only [agoniclaw05_known.l0] at H
   by_cases c2 : x4_1 < (l0.length : Int)
   ·rw [if_pos c2] at H
    have c2b0 : decide (x4_1 < (l0.length : Int)) = true := decide_eq_true c2
    clear c2
    by_cases c3 : 0 ≤ x4_1
    ·rw [if_pos c3] at H
     have c3b0 : decide (0 ≤ x4_1) = true := decide_eq_true c3
     clear c3
     by_cases c4 : x3_1.length < 5864062014805
     ·rw [if_pos c4] at H
      have LMc4 := Aside0.mk c4
      clear c4
      obtain ⟨y340, hy340⟩ : ∃ y_ : List (S124), y_ = (x3_1 ++ [(⟨(rd_T92 l0 x4_1).f0, (⟨(rd_T92 l0 x4_1).f1.f0, (rd_T92 l0 x4_1).f1.f1⟩ : S90)⟩ : S124)]) := ⟨_, rfl⟩
      replace H : (agoniclaw05_known.l0 k1 l0 y340 (wrap64 (x4_1 + 1))) = some r := by first | (rw [hy340]; with_reducible exact H) | (have H2_ := (Option.bind_some _ _).symm.trans H; rw [hy340]; with_reducible exact H2_) | (have H2_ := (Option.bind_some _ _).symm.trans H; with_reducible exact H2_) | with_reducible exact H | (rw [hy340]; exact H) | exact H
      have Ny340 := Aside0.mk hy340
      clear hy340
      have H' := Aside0.mk H
      clear H
      have p339 : 0 ≤ (x4_1 : Int) := zp
      have q339 : x4_1 < (l0.length : Int) := zp
      obtain ⟨ad339, e339, hx339_0, hx339_1, hx339_2⟩ := at_T92 HR0.out x4_1 p339 q339
      cases e339
      replace hx339_0 := (HB.out.cell (World.block_lt_of_cell? w _ hx339_0)).trans hx339_0
      replace hx339_1 := (HB.out.cell (World.block_lt_of_cell? w _ hx339_1)).trans hx339_1
      replace hx339_2 := (HB.out.cell (World.block_lt_of_cell? w _ hx339_2)).trans hx339_2
      replace p339 := eq_true p339
      replace q339 := eq_true q339
      go_wp2_with (first | ((with_reducible refine gate_builtin (b := .append) (xs := #[.tmp 11, .tmp 16]) rfl ?_); at_builtin; refine Kd.R_append k124 (w0 := w) w.heap.size rfl (.tmp 11) (.tmp 16) 62 124 (.agg #[(.int .i64 0), (.int .i64 0), (.int .i64 0)]) 24 rfl Try.underlying62 info124 rfl (by decide) (by omega) u3 x3_1 (⟨(rd_T92 l0 x4_1).f0, (⟨(rd_T92 l0 x4_1).f1.f0, (rd_T92 l0 x4_1).f1.f1⟩ : S90)⟩ : S124) [.int .i64 ((rd_T92 l0 x4_1).f0), .int .i64 ((rd_T92 l0 x4_1).f1.f0), .int .i64 ((rd_T92 l0 x4_1).f1.f1)] (fun _ => True) (fun _ => False) rfl rfl ?aP (fun _ hk => hk.elim) ?aF ?aO ?aB ?aS ?aL ?_; (case aP => exact k124_mkM _ _ _ (⟨(rd_T92 l0 x4_1).f0, (⟨(rd_T92 l0 x4_1).f1.f0, (rd_T92 l0 x4_1).f1.f1⟩ : S90)⟩ : S124)); (case aB => exact zh); (case aF => exact (fun _ _ => trivial)); (case aO => exact (zo HO_3.out)); (case aS => exact (below_size zh)); (case aL => have := LMc4.out; omega); intro v341 w5 ho hb hg hat; rw [← Ny340.out] at ho; replace HB := Aside0.mk (hb); have HO342 := Aside0.mk (ho); clear HO_3; clear ho hb hg hat))
      go_roundg k1
      case measure => have := HK1.out; omega
      case rel => exact ⟨(y340), (wrap64 (x4_1 + 1)), (by first | rfl | (simp; done) | (simp [*]; done)), H', ⟨by have := HK1.out; omega⟩, ⟨by refine zl ?_; exact HO342.out⟩, ⟨zh⟩⟩
     ·rw [if_neg c4] at H
      exact absurd H (by simp)
    ·rw [if_neg c3] at H
     exact absurd H (by simp)
   ·rw [if_neg c2] at H
    have c2b0 : decide (x4_1 < (l0.length : Int)) = false := decide_eq_false c2
    clear c2
    obtain rfl := Option.some.inj H
    go_wp2
    go_ret
    exact ⟨_, ze, by refine zl ?_; exact HO_3.out, zh⟩
mutual
def agonicref05_checked.l0 : Nat → List (S124) → Int → Option (Int)
 | 0, _, _ => none
 | k + 1, x0, x3 => if x3 < (x0.length : Int) then (if 0 ≤ x3 then ((agonicref05_heading.f ((rd_T124 x0 x3).f0)).bind fun t346 => (if t346 = true then ((agonicref05_is.f ((rd_T124 x0 x3).f1.f0) (-900) ((rd_T124 x0 x3).f1.f1)).bind fun t347 => (if t347 = true then (agonicref05_checked.j1 k x0 x3 (decide (((rd_T124 x0 x3).f1.f1) > 900))) else (agonicref05_checked.j1 k x0 x3 true))) else (agonicref05_checked.j1 k x0 x3 true))) else (none)) else (some 0)
def agonicref05_checked.j1 : Nat → List (S124) → Int → Bool → Option (Int)
 | 0, _, _, _ => none
 | k + 1, x0, x3, x41 => if x41 = true then (some 1) else (if x3 > 0 then (if 0 ≤ x3 then (if x3 < (x0.length : Int) then (if 0 ≤ (wrap64 (x3 - 1)) then (if (wrap64 (x3 - 1)) < (x0.length : Int) then (agonicref05_checked.j2 k x0 x3 (((rd_T124 x0 x3).f0) == ((rd_T124 x0 (wrap64 (x3 - 1))).f0))) else (none)) else (none)) else (none)) else (none)) else (agonicref05_checked.j2 k x0 x3 false))
def agonicref05_checked.j2 : Nat → List (S124) → Int → Bool → Option (Int)
 | 0, _, _, _ => none
 | k + 1, x0, x3, x57 => if x57 = true then (some 7) else (if x3 > 0 then (if 0 ≤ x3 then (if x3 < (x0.length : Int) then (if 0 ≤ (wrap64 (x3 - 1)) then (if (wrap64 (x3 - 1)) < (x0.length : Int) then (if ((rd_T124 x0 x3).f0) < ((rd_T124 x0 (wrap64 (x3 - 1))).f0) then (some 5) else (agonicref05_checked.l0 k x0 (wrap64 (x3 + 1)))) else (none)) else (none)) else (none)) else (none)) else (agonicref05_checked.l0 k x0 (wrap64 (x3 + 1))))
end
def agonicref05_checked.f (k : Nat) (l0 : List (S124)) : Option (Int) := if (l0.length : Int) = 0 then (some 2) else (if (l0.length : Int) > 36 then (some 3) else (agonicref05_checked.l0 k l0 0))
set_option maxHeartbeats 8000000 in
set_option maxRecDepth 100000 in
theorem agonicref05_checked.calls (k : Nat) (A0 : Option Addr) (c0 : Nat) (l0 : List (S124)) (r : Int) (w : World) (hr0 : Kd.C k124 w A0 l0.length l0) (hc0 : l0.length ≤ c0) (h : agonicref05_checked.f k l0 = some r) :
  Calls Try.prog 83 #[.slice A0 l0.length c0] w fun e w' => e = .returned (.int .i64 r) ∧ Below w.heap.size w w' := by
 have hu90 := Try.underlying90
 have HR0 := Aside0.mk hr0
 have HC0 := Aside0.mk hc0
 clear hr0 hc0
 have HB := Aside0.mk (Below.refl w.heap.size w)
 have H : (if (l0.length : Int) = 0 then (some 2) else (if (l0.length : Int) > 36 then (some 3) else (agonicref05_checked.l0 k l0 0))) = some r := h
 clear h
 by_cases c2 : (l0.length : Int) = 0
 ·rw [if_pos c2] at H
  have c2b0 : ((l0.length : Int) == 0) = true := beq_iff_eq.mpr c2
  have c2b1 : ((l0.length : Int) != 0) = false := bne_eq_false_iff_eq.mpr c2
  clear c2
  obtain rfl := Option.some.inj H
  go_enter Try.func83, Try.ntmps83
  go_wp2
  repeat (go_quiet (fail); try go_wp2)
  go_ret
  exact ⟨ze, zh⟩
 ·rw [if_neg c2] at H
  have c2b0 : ((l0.length : Int) == 0) = false := beq_eq_false_iff_ne.mpr c2
  have c2b1 : ((l0.length : Int) != 0) = true := bne_iff_ne.mpr c2
  have c2b2 : ¬ (l0 = []) := fun h_ => c2 (by rw [h_]; rfl)
  by_cases c3 : (l0.length : Int) > 36
  ·rw [if_pos c3] at H
   have c3b0 : decide (36 < (l0.length : Int)) = true := decide_eq_true c3
   have c3b1 : decide (36 < l0.length) = true := decide_eq_true (by omega)
   clear c3
   obtain rfl := Option.some.inj H
   go_enter Try.func83, Try.ntmps83
   go_wp2
   repeat (go_quiet (fail); try go_wp2)
   go_ret
   exact ⟨ze, zh⟩
  ·rw [if_neg c3] at H
   have c3b0 : decide (36 < (l0.length : Int)) = false := decide_eq_false c3
   have c3b1 : decide (36 < l0.length) = false := decide_eq_false (by omega)
   clear c3
   have H' := Aside0.mk H
   clear H
   go_enter Try.func83, Try.ntmps83
   go_wp2
   repeat (go_quiet (fail); try go_wp2)
   go_loopg [3] k (fun kq v3 w' => ∃ (x3_1 : Int), v3 = .int .i64 x3_1 ∧ Aside0 (agonicref05_checked.l0 kq l0 x3_1 = some r) ∧ Aside0 (kq ≤ k) ∧ Aside0 (Below w.heap.size w w'))
   case atStart => exact ⟨(0), (by first | rfl | (simp; done) | (simp [*]; done)), H', ⟨Nat.le_refl _⟩, ⟨zh⟩⟩
   case round =>
    clear H'
    try clear c2
    try clear c2b0
    try clear c2b1
    try clear c2b2
    try clear p2
    try clear c3
    try clear c3b0
    try clear c3b1
    obtain ⟨x3_1, rfl, HA, HK1, HB⟩ := hrel
    cases gk with
    | zero => exact absurd HA.out (by simp [agonicref05_checked.l0])
    | succ k1 =>
     have H := HA.out
     clear HA
     simp only [agonicref05_checked.l0] at H
     by_cases c4 : x3_1 < (l0.length : Int)
     ·rw [if_pos c4] at H
      have c4b0 : decide (x3_1 < (l0.length : Int)) = true := decide_eq_true c4
      clear c4
      by_cases c5 : 0 ≤ x3_1
      ·rw [if_pos c5] at H
       have c5b0 : decide (0 ≤ x3_1) = true := decide_eq_true c5
       clear c5
       have HC6 := Aside0.mk H
       clear H
       have p343 : 0 ≤ (x3_1 : Int) := zp
       have q343 : x3_1 < (l0.length : Int) := zp
       obtain ⟨ad343, e343, hx343_0, hx343_1, hx343_2⟩ := at_T124 HR0.out x3_1 p343 q343
       cases e343
       replace hx343_0 := (HB.out.cell (World.block_lt_of_cell? w _ hx343_0)).trans hx343_0
       replace hx343_1 := (HB.out.cell (World.block_lt_of_cell? w _ hx343_1)).trans hx343_1
       replace hx343_2 := (HB.out.cell (World.block_lt_of_cell? w _ hx343_2)).trans hx343_2
       replace p343 := eq_true p343
       replace q343 := eq_true q343
       go_upto_region 9 with (first | ((with_reducible refine gD 4 rfl ?_); refine zx 4 #[.int .i64 0, .int .i64 0] 90 ?_; intro gb344 hg w7 hbox hb; have BK344 := Aside0.mk (hbox); have GW344 := zG w hg; have GE344 := zG w hg; replace HB := zd hb; clear hb hbox hg; have hcz8_0 : w7.cell? ⟨gb344, 0, none⟩ = some (.int .i64 0) := zy BK344 0; have hcz8_1 : w7.cell? ⟨gb344, 1, none⟩ = some (.int .i64 0) := zy BK344 1; have hfz8_0 := blk_frozen BK344.out 0; have hfz8_1 := blk_frozen BK344.out 1))
       repeat (go_quiet (first | ((with_reducible refine gD 4 rfl ?_); refine zx 4 #[.int .i64 0, .int .i64 0] 90 ?_; intro gb344 hg w7 hbox hb; have BK344 := Aside0.mk (hbox); have GW344 := zG w hg; have GE344 := zG w hg; replace HB := zd hb; clear hb hbox hg; have hcz8_0 : w7.cell? ⟨gb344, 0, none⟩ = some (.int .i64 0) := zy BK344 0; have hcz8_1 : w7.cell? ⟨gb344, 1, none⟩ = some (.int .i64 0) := zy BK344 1; have hfz8_0 := blk_frozen BK344.out 0; have hfz8_1 := blk_frozen BK344.out 1)); go_upto_region 9 with (first | ((with_reducible refine gD 4 rfl ?_); refine zx 4 #[.int .i64 0, .int .i64 0] 90 ?_; intro gb344 hg w7 hbox hb; have BK344 := Aside0.mk (hbox); have GW344 := zG w hg; have GE344 := zG w hg; replace HB := zd hb; clear hb hbox hg; have hcz8_0 : w7.cell? ⟨gb344, 0, none⟩ = some (.int .i64 0) := zy BK344 0; have hcz8_1 : w7.cell? ⟨gb344, 1, none⟩ = some (.int .i64 0) := zy BK344 1; have hfz8_0 := blk_frozen BK344.out 0; have hfz8_1 := blk_frozen BK344.out 1)))
       (try simp only [Act.put, List.setIfInBounds_toArray, List.set_cons_zero, List.set_cons_succ])
       go_cut [41] (fun v41 wc => ∃ (kq : Nat) (x41_5 : Bool), v41 = .bool x41_5 ∧ Aside0 (agonicref05_checked.j1 kq l0 x3_1 x41_5 = some r) ∧ Aside0 (kq ≤ k1) ∧ Aside0 (wc.heap[gb344]? = some (.cells #[.int .i64 ((rd_T124 l0 x3_1).f1.f0), .int .i64 ((rd_T124 l0 x3_1).f1.f1)] 90 (0, 0))) ∧ Aside0 (Below w.heap.size w wc))
       case first =>
        have H := HC6.out
        clear HC6
        replace H := zi H
        obtain ⟨t346, A90, H⟩ := H
        try dsimp only at H
        have A9 := Aside0.mk A90
        clear A90
        by_cases c10 : t346 = true
        ·subst c10
         rw [if_pos rfl] at H
         replace H := zi H
         obtain ⟨t347, A110, H⟩ := H
         try dsimp only at H
         have A11 := Aside0.mk A110
         clear A110
         by_cases c12 : t347 = true
         ·subst c12
          rw [if_pos rfl] at H
          have H' := Aside0.mk H
          clear H
          have p345 : 0 ≤ (x3_1 : Int) := zp
          have q345 : x3_1 < (l0.length : Int) := zp
          obtain ⟨ad345, e345, hx345_0, hx345_1, hx345_2⟩ := at_T124 HR0.out x3_1 p345 q345
          obtain rfl : ad343 = ad345 := (by injection e345)
          have hn345_0 : ad343.block ≠ gb344 := Nat.ne_of_lt (Nat.lt_of_lt_of_le (zv hx345_0) GW344.out)
          have hn345_1 : ad343.block ≠ gb344 := Nat.ne_of_lt (Nat.lt_of_lt_of_le (zv hx345_0) GW344.out)
          replace hx345_0 := (HB.out.cell (World.block_lt_of_cell? w _ hx345_0)).trans hx345_0
          replace hx345_1 := (HB.out.cell (World.block_lt_of_cell? w _ hx345_1)).trans hx345_1
          replace hx345_2 := (HB.out.cell (World.block_lt_of_cell? w _ hx345_2)).trans hx345_2
          replace hx345_0 := (cell_far (p := ⟨gb344, 0, none⟩) (by first | (rw [add_block]; exact hn345_0) | (show (Addr.add _ _).block ≠ _; rw [add_block]; exact hn345_0) | exact hn345_0) (.int .i64 ((rd_T124 l0 x3_1).f1.f0))).trans hx345_0
          replace hx345_1 := (cell_far (p := ⟨gb344, 0, none⟩) (by first | (rw [add_block]; exact hn345_0) | (show (Addr.add _ _).block ≠ _; rw [add_block]; exact hn345_0) | exact hn345_0) (.int .i64 ((rd_T124 l0 x3_1).f1.f0))).trans hx345_1
          replace hx345_2 := (cell_far (p := ⟨gb344, 0, none⟩) (by first | (rw [add_block]; exact hn345_0) | (show (Addr.add _ _).block ≠ _; rw [add_block]; exact hn345_0) | exact hn345_0) (.int .i64 ((rd_T124 l0 x3_1).f1.f0))).trans hx345_2
          replace hx345_0 := (cell_far (p := ⟨gb344, 1, none⟩) (by first | (rw [add_block]; exact hn345_1) | (show (Addr.add _ _).block ≠ _; rw [add_block]; exact hn345_1) | exact hn345_1) (.int .i64 ((rd_T124 l0 x3_1).f1.f1))).trans hx345_0
          replace hx345_1 := (cell_far (p := ⟨gb344, 1, none⟩) (by first | (rw [add_block]; exact hn345_1) | (show (Addr.add _ _).block ≠ _; rw [add_block]; exact hn345_1) | exact hn345_1) (.int .i64 ((rd_T124 l0 x3_1).f1.f1))).trans hx345_1
          replace hx345_2 := (cell_far (p := ⟨gb344, 1, none⟩) (by first | (rw [add_block]; exact hn345_1) | (show (Addr.add _ _).block ≠ _; rw [add_block]; exact hn345_1) | exact hn345_1) (.int .i64 ((rd_T124 l0 x3_1).f1.f1))).trans hx345_2
          (try have hy345_0 := fun (n_ : Nat) => (show ((((w7.drewN n_).setCell ⟨gb344, 0, none⟩ (.int .i64 ((rd_T124 l0 x3_1).f1.f0))).setCell ⟨gb344, 1, none⟩ (.int .i64 ((rd_T124 l0 x3_1).f1.f1)))).cell? _ = some _ from hx345_0))
          (try have hy345_1 := fun (n_ : Nat) => (show ((((w7.drewN n_).setCell ⟨gb344, 0, none⟩ (.int .i64 ((rd_T124 l0 x3_1).f1.f0))).setCell ⟨gb344, 1, none⟩ (.int .i64 ((rd_T124 l0 x3_1).f1.f1)))).cell? _ = some _ from hx345_1))
          (try have hy345_2 := fun (n_ : Nat) => (show ((((w7.drewN n_).setCell ⟨gb344, 0, none⟩ (.int .i64 ((rd_T124 l0 x3_1).f1.f0))).setCell ⟨gb344, 1, none⟩ (.int .i64 ((rd_T124 l0 x3_1).f1.f1)))).cell? _ = some _ from hx345_2))
          clear hn345_0
          clear hn345_1
          replace p345 := eq_true p345
          replace q345 := eq_true q345
          go_wp2_with (first | (go_at_call 56; (with_reducible refine (agonicref05_heading.calls ((rd_T124 l0 x3_1).f0) true _ A9.out).mono ?_); rintro e w' ⟨rfl, ⟨nd, rfl⟩⟩; (try first | exact ⟨rfl, _, World.drewN_drewN _ _ _⟩ | exact ⟨rfl, _, Eq.trans (World.drewN_drewN _ _ _) (congrArg (World.drewN _) (Nat.add_assoc _ _ _))⟩); have hcz13_0 : w7.cell? ⟨gb344, 0, none⟩ = some (.int .i64 0) := zy BK344 0; have hcz13_1 : w7.cell? ⟨gb344, 1, none⟩ = some (.int .i64 0) := zy BK344 1; have hfz13_0 := blk_frozen BK344.out 0; have hfz13_1 := blk_frozen BK344.out 1) | (go_at_call 63; (with_reducible refine (agonicref05_is.calls ((rd_T124 l0 x3_1).f1.f0) (-900) ((rd_T124 l0 x3_1).f1.f1) true _ A11.out).mono ?_); rintro e w' ⟨rfl, ⟨nd, rfl⟩⟩; (try first | exact ⟨rfl, _, World.drewN_drewN _ _ _⟩ | exact ⟨rfl, _, Eq.trans (World.drewN_drewN _ _ _) (congrArg (World.drewN _) (Nat.add_assoc _ _ _))⟩)))
          repeat (go_quiet (first | (go_at_call 56; (with_reducible refine (agonicref05_heading.calls ((rd_T124 l0 x3_1).f0) true _ A9.out).mono ?_); rintro e w' ⟨rfl, ⟨nd, rfl⟩⟩; (try first | exact ⟨rfl, _, World.drewN_drewN _ _ _⟩ | exact ⟨rfl, _, Eq.trans (World.drewN_drewN _ _ _) (congrArg (World.drewN _) (Nat.add_assoc _ _ _))⟩); have hcz13_0 : w7.cell? ⟨gb344, 0, none⟩ = some (.int .i64 0) := zy BK344 0; have hcz13_1 : w7.cell? ⟨gb344, 1, none⟩ = some (.int .i64 0) := zy BK344 1; have hfz13_0 := blk_frozen BK344.out 0; have hfz13_1 := blk_frozen BK344.out 1) | (go_at_call 63; (with_reducible refine (agonicref05_is.calls ((rd_T124 l0 x3_1).f1.f0) (-900) ((rd_T124 l0 x3_1).f1.f1) true _ A11.out).mono ?_); rintro e w' ⟨rfl, ⟨nd, rfl⟩⟩; (try first | exact ⟨rfl, _, World.drewN_drewN _ _ _⟩ | exact ⟨rfl, _, Eq.trans (World.drewN_drewN _ _ _) (congrArg (World.drewN _) (Nat.add_assoc _ _ _))⟩))); try go_wp2_with (first | (go_at_call 56; (with_reducible refine (agonicref05_heading.calls ((rd_T124 l0 x3_1).f0) true _ A9.out).mono ?_); rintro e w' ⟨rfl, ⟨nd, rfl⟩⟩; (try first | exact ⟨rfl, _, World.drewN_drewN _ _ _⟩ | exact ⟨rfl, _, Eq.trans (World.drewN_drewN _ _ _) (congrArg (World.drewN _) (Nat.add_assoc _ _ _))⟩); have hcz13_0 : w7.cell? ⟨gb344, 0, none⟩ = some (.int .i64 0) := zy BK344 0; have hcz13_1 : w7.cell? ⟨gb344, 1, none⟩ = some (.int .i64 0) := zy BK344 1; have hfz13_0 := blk_frozen BK344.out 0; have hfz13_1 := blk_frozen BK344.out 1) | (go_at_call 63; (with_reducible refine (agonicref05_is.calls ((rd_T124 l0 x3_1).f1.f0) (-900) ((rd_T124 l0 x3_1).f1.f1) true _ A11.out).mono ?_); rintro e w' ⟨rfl, ⟨nd, rfl⟩⟩; (try first | exact ⟨rfl, _, World.drewN_drewN _ _ _⟩ | exact ⟨rfl, _, Eq.trans (World.drewN_drewN _ _ _) (congrArg (World.drewN _) (Nat.add_assoc _ _ _))⟩))))
          go_meet
          case rel => exact ⟨_, (decide (((rd_T124 l0 x3_1).f1.f1) > 900)), (by first | rfl | (simp; done) | (simp [*]; done)), H', ⟨by have := HK1.out; first | omega | exact Nat.le_refl _⟩, ⟨by refine zm ?_; refine blk_put (cs := #[.int .i64 ((rd_T124 l0 x3_1).f1.f0), .int .i64 0]) ?_ 1 _ rfl; refine zm ?_; refine blk_put (cs := #[.int .i64 0, .int .i64 0]) ?_ 0 _ rfl; refine zm ?_; exact BK344.out⟩, ⟨zh⟩⟩
         ·replace c12 := Bool.eq_false_iff.mpr c12
          subst c12
          rw [if_neg (show ¬ (false = true) by decide)] at H
          have H' := Aside0.mk H
          clear H
          have p345 : 0 ≤ (x3_1 : Int) := zp
          have q345 : x3_1 < (l0.length : Int) := zp
          obtain ⟨ad345, e345, hx345_0, hx345_1, hx345_2⟩ := at_T124 HR0.out x3_1 p345 q345
          obtain rfl : ad343 = ad345 := (by injection e345)
          have hn345_0 : ad343.block ≠ gb344 := Nat.ne_of_lt (Nat.lt_of_lt_of_le (zv hx345_0) GW344.out)
          have hn345_1 : ad343.block ≠ gb344 := Nat.ne_of_lt (Nat.lt_of_lt_of_le (zv hx345_0) GW344.out)
          replace hx345_0 := (HB.out.cell (World.block_lt_of_cell? w _ hx345_0)).trans hx345_0
          replace hx345_1 := (HB.out.cell (World.block_lt_of_cell? w _ hx345_1)).trans hx345_1
          replace hx345_2 := (HB.out.cell (World.block_lt_of_cell? w _ hx345_2)).trans hx345_2
          replace hx345_0 := (cell_far (p := ⟨gb344, 0, none⟩) (by first | (rw [add_block]; exact hn345_0) | (show (Addr.add _ _).block ≠ _; rw [add_block]; exact hn345_0) | exact hn345_0) (.int .i64 ((rd_T124 l0 x3_1).f1.f0))).trans hx345_0
          replace hx345_1 := (cell_far (p := ⟨gb344, 0, none⟩) (by first | (rw [add_block]; exact hn345_0) | (show (Addr.add _ _).block ≠ _; rw [add_block]; exact hn345_0) | exact hn345_0) (.int .i64 ((rd_T124 l0 x3_1).f1.f0))).trans hx345_1
          replace hx345_2 := (cell_far (p := ⟨gb344, 0, none⟩) (by first | (rw [add_block]; exact hn345_0) | (show (Addr.add _ _).block ≠ _; rw [add_block]; exact hn345_0) | exact hn345_0) (.int .i64 ((rd_T124 l0 x3_1).f1.f0))).trans hx345_2
          replace hx345_0 := (cell_far (p := ⟨gb344, 1, none⟩) (by first | (rw [add_block]; exact hn345_1) | (show (Addr.add _ _).block ≠ _; rw [add_block]; exact hn345_1) | exact hn345_1) (.int .i64 ((rd_T124 l0 x3_1).f1.f1))).trans hx345_0
          replace hx345_1 := (cell_far (p := ⟨gb344, 1, none⟩) (by first | (rw [add_block]; exact hn345_1) | (show (Addr.add _ _).block ≠ _; rw [add_block]; exact hn345_1) | exact hn345_1) (.int .i64 ((rd_T124 l0 x3_1).f1.f1))).trans hx345_1
          replace hx345_2 := (cell_far (p := ⟨gb344, 1, none⟩) (by first | (rw [add_block]; exact hn345_1) | (show (Addr.add _ _).block ≠ _; rw [add_block]; exact hn345_1) | exact hn345_1) (.int .i64 ((rd_T124 l0 x3_1).f1.f1))).trans hx345_2
          (try have hy345_0 := fun (n_ : Nat) => (show ((((w7.drewN n_).setCell ⟨gb344, 0, none⟩ (.int .i64 ((rd_T124 l0 x3_1).f1.f0))).setCell ⟨gb344, 1, none⟩ (.int .i64 ((rd_T124 l0 x3_1).f1.f1)))).cell? _ = some _ from hx345_0))
          (try have hy345_1 := fun (n_ : Nat) => (show ((((w7.drewN n_).setCell ⟨gb344, 0, none⟩ (.int .i64 ((rd_T124 l0 x3_1).f1.f0))).setCell ⟨gb344, 1, none⟩ (.int .i64 ((rd_T124 l0 x3_1).f1.f1)))).cell? _ = some _ from hx345_1))
          (try have hy345_2 := fun (n_ : Nat) => (show ((((w7.drewN n_).setCell ⟨gb344, 0, none⟩ (.int .i64 ((rd_T124 l0 x3_1).f1.f0))).setCell ⟨gb344, 1, none⟩ (.int .i64 ((rd_T124 l0 x3_1).f1.f1)))).cell? _ = some _ from hx345_2))
          clear hn345_0
          clear hn345_1
          replace p345 := eq_true p345
          replace q345 := eq_true q345
          go_wp2_with (first | (go_at_call 56; (with_reducible refine (agonicref05_heading.calls ((rd_T124 l0 x3_1).f0) true _ A9.out).mono ?_); rintro e w' ⟨rfl, ⟨nd, rfl⟩⟩; (try first | exact ⟨rfl, _, World.drewN_drewN _ _ _⟩ | exact ⟨rfl, _, Eq.trans (World.drewN_drewN _ _ _) (congrArg (World.drewN _) (Nat.add_assoc _ _ _))⟩); have hcz14_0 : w7.cell? ⟨gb344, 0, none⟩ = some (.int .i64 0) := zy BK344 0; have hcz14_1 : w7.cell? ⟨gb344, 1, none⟩ = some (.int .i64 0) := zy BK344 1; have hfz14_0 := blk_frozen BK344.out 0; have hfz14_1 := blk_frozen BK344.out 1) | (go_at_call 63; (with_reducible refine (agonicref05_is.calls ((rd_T124 l0 x3_1).f1.f0) (-900) ((rd_T124 l0 x3_1).f1.f1) false _ A11.out).mono ?_); rintro e w' ⟨rfl, ⟨nd, rfl⟩⟩; (try first | exact ⟨rfl, _, World.drewN_drewN _ _ _⟩ | exact ⟨rfl, _, Eq.trans (World.drewN_drewN _ _ _) (congrArg (World.drewN _) (Nat.add_assoc _ _ _))⟩)))
          repeat (go_quiet (first | (go_at_call 56; (with_reducible refine (agonicref05_heading.calls ((rd_T124 l0 x3_1).f0) true _ A9.out).mono ?_); rintro e w' ⟨rfl, ⟨nd, rfl⟩⟩; (try first | exact ⟨rfl, _, World.drewN_drewN _ _ _⟩ | exact ⟨rfl, _, Eq.trans (World.drewN_drewN _ _ _) (congrArg (World.drewN _) (Nat.add_assoc _ _ _))⟩); have hcz14_0 : w7.cell? ⟨gb344, 0, none⟩ = some (.int .i64 0) := zy BK344 0; have hcz14_1 : w7.cell? ⟨gb344, 1, none⟩ = some (.int .i64 0) := zy BK344 1; have hfz14_0 := blk_frozen BK344.out 0; have hfz14_1 := blk_frozen BK344.out 1) | (go_at_call 63; (with_reducible refine (agonicref05_is.calls ((rd_T124 l0 x3_1).f1.f0) (-900) ((rd_T124 l0 x3_1).f1.f1) false _ A11.out).mono ?_); rintro e w' ⟨rfl, ⟨nd, rfl⟩⟩; (try first | exact ⟨rfl, _, World.drewN_drewN _ _ _⟩ | exact ⟨rfl, _, Eq.trans (World.drewN_drewN _ _ _) (congrArg (World.drewN _) (Nat.add_assoc _ _ _))⟩))); try go_wp2_with (first | (go_at_call 56; (with_reducible refine (agonicref05_heading.calls ((rd_T124 l0 x3_1).f0) true _ A9.out).mono ?_); rintro e w' ⟨rfl, ⟨nd, rfl⟩⟩; (try first | exact ⟨rfl, _, World.drewN_drewN _ _ _⟩ | exact ⟨rfl, _, Eq.trans (World.drewN_drewN _ _ _) (congrArg (World.drewN _) (Nat.add_assoc _ _ _))⟩); have hcz14_0 : w7.cell? ⟨gb344, 0, none⟩ = some (.int .i64 0) := zy BK344 0; have hcz14_1 : w7.cell? ⟨gb344, 1, none⟩ = some (.int .i64 0) := zy BK344 1; have hfz14_0 := blk_frozen BK344.out 0; have hfz14_1 := blk_frozen BK344.out 1) | (go_at_call 63; (with_reducible refine (agonicref05_is.calls ((rd_T124 l0 x3_1).f1.f0) (-900) ((rd_T124 l0 x3_1).f1.f1) false _ A11.out).mono ?_); rintro e w' ⟨rfl, ⟨nd, rfl⟩⟩; (try first | exact ⟨rfl, _, World.drewN_drewN _ _ _⟩ | exact ⟨rfl, _, Eq.trans (World.drewN_drewN _ _ _) (congrArg (World.drewN _) (Nat.add_assoc _ _ _))⟩))))
          go_meet
          case rel => exact ⟨_, (true), (by first | rfl | (simp; done) | (simp [*]; done)), H', ⟨by have := HK1.out; first | omega | exact Nat.le_refl _⟩, ⟨by refine zm ?_; refine blk_put (cs := #[.int .i64 ((rd_T124 l0 x3_1).f1.f0), .int .i64 0]) ?_ 1 _ rfl; refine zm ?_; refine blk_put (cs := #[.int .i64 0, .int .i64 0]) ?_ 0 _ rfl; refine zm ?_; exact BK344.out⟩, ⟨zh⟩⟩
        ·replace c10 := Bool.eq_false_iff.mpr c10
         subst c10
         rw [if_neg (show ¬ (false = true) by decide)] at H
         have H' := Aside0.mk H
         clear H
         have p345 : 0 ≤ (x3_1 : Int) := zp
         have q345 : x3_1 < (l0.length : Int) := zp
         obtain ⟨ad345, e345, hx345_0, hx345_1, hx345_2⟩ := at_T124 HR0.out x3_1 p345 q345
         obtain rfl : ad343 = ad345 := (by injection e345)
         have hn345_0 : ad343.block ≠ gb344 := Nat.ne_of_lt (Nat.lt_of_lt_of_le (zv hx345_0) GW344.out)
         have hn345_1 : ad343.block ≠ gb344 := Nat.ne_of_lt (Nat.lt_of_lt_of_le (zv hx345_0) GW344.out)
         replace hx345_0 := (HB.out.cell (World.block_lt_of_cell? w _ hx345_0)).trans hx345_0
         replace hx345_1 := (HB.out.cell (World.block_lt_of_cell? w _ hx345_1)).trans hx345_1
         replace hx345_2 := (HB.out.cell (World.block_lt_of_cell? w _ hx345_2)).trans hx345_2
         replace hx345_0 := (cell_far (p := ⟨gb344, 0, none⟩) (by first | (rw [add_block]; exact hn345_0) | (show (Addr.add _ _).block ≠ _; rw [add_block]; exact hn345_0) | exact hn345_0) (.int .i64 ((rd_T124 l0 x3_1).f1.f0))).trans hx345_0
         replace hx345_1 := (cell_far (p := ⟨gb344, 0, none⟩) (by first | (rw [add_block]; exact hn345_0) | (show (Addr.add _ _).block ≠ _; rw [add_block]; exact hn345_0) | exact hn345_0) (.int .i64 ((rd_T124 l0 x3_1).f1.f0))).trans hx345_1
         replace hx345_2 := (cell_far (p := ⟨gb344, 0, none⟩) (by first | (rw [add_block]; exact hn345_0) | (show (Addr.add _ _).block ≠ _; rw [add_block]; exact hn345_0) | exact hn345_0) (.int .i64 ((rd_T124 l0 x3_1).f1.f0))).trans hx345_2
         replace hx345_0 := (cell_far (p := ⟨gb344, 1, none⟩) (by first | (rw [add_block]; exact hn345_1) | (show (Addr.add _ _).block ≠ _; rw [add_block]; exact hn345_1) | exact hn345_1) (.int .i64 ((rd_T124 l0 x3_1).f1.f1))).trans hx345_0
         replace hx345_1 := (cell_far (p := ⟨gb344, 1, none⟩) (by first | (rw [add_block]; exact hn345_1) | (show (Addr.add _ _).block ≠ _; rw [add_block]; exact hn345_1) | exact hn345_1) (.int .i64 ((rd_T124 l0 x3_1).f1.f1))).trans hx345_1
         replace hx345_2 := (cell_far (p := ⟨gb344, 1, none⟩) (by first | (rw [add_block]; exact hn345_1) | (show (Addr.add _ _).block ≠ _; rw [add_block]; exact hn345_1) | exact hn345_1) (.int .i64 ((rd_T124 l0 x3_1).f1.f1))).trans hx345_2
         (try have hy345_0 := fun (n_ : Nat) => (show ((((w7.drewN n_).setCell ⟨gb344, 0, none⟩ (.int .i64 ((rd_T124 l0 x3_1).f1.f0))).setCell ⟨gb344, 1, none⟩ (.int .i64 ((rd_T124 l0 x3_1).f1.f1)))).cell? _ = some _ from hx345_0))
         (try have hy345_1 := fun (n_ : Nat) => (show ((((w7.drewN n_).setCell ⟨gb344, 0, none⟩ (.int .i64 ((rd_T124 l0 x3_1).f1.f0))).setCell ⟨gb344, 1, none⟩ (.int .i64 ((rd_T124 l0 x3_1).f1.f1)))).cell? _ = some _ from hx345_1))
         (try have hy345_2 := fun (n_ : Nat) => (show ((((w7.drewN n_).setCell ⟨gb344, 0, none⟩ (.int .i64 ((rd_T124 l0 x3_1).f1.f0))).setCell ⟨gb344, 1, none⟩ (.int .i64 ((rd_T124 l0 x3_1).f1.f1)))).cell? _ = some _ from hx345_2))
         clear hn345_0
         clear hn345_1
         replace p345 := eq_true p345
         replace q345 := eq_true q345
         go_wp2_with (first | (go_at_call 56; (with_reducible refine (agonicref05_heading.calls ((rd_T124 l0 x3_1).f0) false _ A9.out).mono ?_); rintro e w' ⟨rfl, ⟨nd, rfl⟩⟩; (try first | exact ⟨rfl, _, World.drewN_drewN _ _ _⟩ | exact ⟨rfl, _, Eq.trans (World.drewN_drewN _ _ _) (congrArg (World.drewN _) (Nat.add_assoc _ _ _))⟩)))
         repeat (go_quiet (first | (go_at_call 56; (with_reducible refine (agonicref05_heading.calls ((rd_T124 l0 x3_1).f0) false _ A9.out).mono ?_); rintro e w' ⟨rfl, ⟨nd, rfl⟩⟩; (try first | exact ⟨rfl, _, World.drewN_drewN _ _ _⟩ | exact ⟨rfl, _, Eq.trans (World.drewN_drewN _ _ _) (congrArg (World.drewN _) (Nat.add_assoc _ _ _))⟩))); try go_wp2_with (first | (go_at_call 56; (with_reducible refine (agonicref05_heading.calls ((rd_T124 l0 x3_1).f0) false _ A9.out).mono ?_); rintro e w' ⟨rfl, ⟨nd, rfl⟩⟩; (try first | exact ⟨rfl, _, World.drewN_drewN _ _ _⟩ | exact ⟨rfl, _, Eq.trans (World.drewN_drewN _ _ _) (congrArg (World.drewN _) (Nat.add_assoc _ _ _))⟩))))
         go_meet
         case rel => exact ⟨_, (true), (by first | rfl | (simp; done) | (simp [*]; done)), H', ⟨by have := HK1.out; first | omega | exact Nat.le_refl _⟩, ⟨by refine zm ?_; refine blk_put (cs := #[.int .i64 ((rd_T124 l0 x3_1).f1.f0), .int .i64 0]) ?_ 1 _ rfl; refine zm ?_; refine blk_put (cs := #[.int .i64 0, .int .i64 0]) ?_ 0 _ rfl; refine zm ?_; exact BK344.out⟩, ⟨zh⟩⟩
       case rest =>
        clear HC6
        try clear c1
        try clear c2
        try clear c2b0
        try clear c2b1
        try clear c2b2
        try clear p2
        try clear c3
        try clear c3b0
        try clear c3b1
        try clear p3
        try clear q3
        try clear hx3
        try clear c4
        try clear c4b0
        try clear c5
        try clear c5b0
        try clear c8
        try clear c10
        try clear c12
        try clear hcz13_0
        try clear hcz13_1
        try clear hcz14_0
        try clear hcz14_1
        try clear hcz8_0
        try clear hcz8_1
        try clear hfz13_0
        try clear hfz13_1
        try clear hfz14_0
        try clear hfz14_1
        try clear hfz8_0
        try clear hfz8_1
        try clear hx343_0
        try clear hx343_1
        try clear hx343_2
        try clear hx345_0
        try clear hx345_1
        try clear hx345_2
        try clear p2
        try clear p343
        try clear p345
        try clear q343
        try clear q345
        obtain ⟨kq, x41_5, rfl, HA, HJ5, BK344, HB⟩ := hcut
        cases kq with
        | zero => exact absurd HA.out (by simp [agonicref05_checked.j1])
        | succ kj5 =>
         have H := HA.out
         clear HA
         simp only [agonicref05_checked.j1] at H
         by_cases c15 : x41_5 = true
         ·subst c15
          rw [if_pos rfl] at H
          obtain rfl := Option.some.inj H
          go_wp2
          repeat (go_quiet (fail); try go_wp2)
          go_ret
          exact ⟨ze, zh⟩
         ·replace c15 := Bool.eq_false_iff.mpr c15
          subst c15
          rw [if_neg (show ¬ (false = true) by decide)] at H
          have HC16 := Aside0.mk H
          clear H
          go_upto_region 11 with (fail)
          repeat (go_quiet (fail); go_upto_region 11 with (fail))
          go_cut [57] (fun v57 wc => ∃ (kq : Nat) (x57_15 : Bool), v57 = .bool x57_15 ∧ Aside0 (agonicref05_checked.j2 kq l0 x3_1 x57_15 = some r) ∧ Aside0 (kq ≤ kj5) ∧ Aside0 (wc.heap[gb344]? = some (.cells #[.int .i64 ((rd_T124 l0 x3_1).f1.f0), .int .i64 ((rd_T124 l0 x3_1).f1.f1)] 90 (0, 0))) ∧ Aside0 (Below w.heap.size w wc))
          case first =>
           have H := HC16.out
           clear HC16
           by_cases c17 : x3_1 > 0
           ·rw [if_pos c17] at H
            have c17b0 : decide (0 < x3_1) = true := decide_eq_true c17
            clear c17
            (first | rw [c17b0] | (simp only [i64_w, i32_w]; rw [c17b0]) | skip)
            by_cases c18 : 0 ≤ x3_1
            ·rw [if_pos c18] at H
             have c18b0 : decide (0 ≤ x3_1) = true := decide_eq_true c18
             clear c18
             by_cases c19 : x3_1 < (l0.length : Int)
             ·rw [if_pos c19] at H
              have c19b0 : decide (x3_1 < (l0.length : Int)) = true := decide_eq_true c19
              clear c19
              obtain ⟨ji20, hji20⟩ : ∃ j_ : Int, (wrap64 (x3_1 - 1)) = j_ := ⟨_, rfl⟩
              replace H : (if 0 ≤ (ji20) then (if (ji20) < (l0.length : Int) then (agonicref05_checked.j2 kj5 l0 x3_1 (((rd_T124 l0 x3_1).f0) == ((rd_T124 l0 (ji20)).f0))) else (none)) else (none)) = some r := by first | (rw [hji20] at H; exact H) | (simp only [hji20] at H ⊢; exact H)
              have hji20w : (IntKind.i64.wrap (x3_1 - 1)) = ji20 := (i64_w _).trans hji20
              by_cases c21 : 0 ≤ (ji20)
              ·rw [if_pos c21] at H
               have c21b0 : decide (0 ≤ (ji20)) = true := decide_eq_true c21
               clear c21
               by_cases c22 : (ji20) < (l0.length : Int)
               ·rw [if_pos c22] at H
                have c22b0 : decide ((ji20) < (l0.length : Int)) = true := decide_eq_true c22
                clear c22
                have H' := Aside0.mk H
                clear H
                have p348 : 0 ≤ (x3_1 : Int) := zp
                have q348 : x3_1 < (l0.length : Int) := zp
                obtain ⟨ad348, e348, hx348_0, hx348_1, hx348_2⟩ := at_T124 HR0.out x3_1 p348 q348
                obtain rfl : ad343 = ad348 := (by injection e348)
                replace hx348_0 := (HB.out.cell (World.block_lt_of_cell? w _ hx348_0)).trans hx348_0
                replace hx348_1 := (HB.out.cell (World.block_lt_of_cell? w _ hx348_1)).trans hx348_1
                replace hx348_2 := (HB.out.cell (World.block_lt_of_cell? w _ hx348_2)).trans hx348_2
                replace p348 := eq_true p348
                replace q348 := eq_true q348
                have p349 : 0 ≤ ((ji20) : Int) := zp
                have q349 : (ji20) < (l0.length : Int) := zp
                obtain ⟨ad349, e349, hx349_0, hx349_1, hx349_2⟩ := at_T124 HR0.out (ji20) p349 q349
                obtain rfl : ad343 = ad349 := (by injection e349)
                replace hx349_0 := (HB.out.cell (World.block_lt_of_cell? w _ hx349_0)).trans hx349_0
                replace hx349_1 := (HB.out.cell (World.block_lt_of_cell? w _ hx349_1)).trans hx349_1
                replace hx349_2 := (HB.out.cell (World.block_lt_of_cell? w _ hx349_2)).trans hx349_2
                replace p349 := eq_true p349
                replace q349 := eq_true q349
                go_wp2
                repeat (go_quiet (fail); try go_wp2)
                go_meet
                case rel => exact ⟨_, ((((rd_T124 l0 x3_1).f0) == ((rd_T124 l0 (ji20)).f0))), (by first | rfl | (simp; done) | (simp only [← hji20] <;> (first | rfl | simp)) | (simp [*]; done)), H', ⟨by have := HK1.out; have := HJ5.out; first | omega | exact Nat.le_refl _⟩, ⟨by refine zm ?_; exact BK344.out⟩, ⟨zh⟩⟩
               ·rw [if_neg c22] at H
                exact absurd H (by simp)
              ·rw [if_neg c21] at H
               exact absurd H (by simp)
             ·rw [if_neg c19] at H
              exact absurd H (by simp)
            ·rw [if_neg c18] at H
             exact absurd H (by simp)
           ·rw [if_neg c17] at H
            have c17b0 : decide (0 < x3_1) = false := decide_eq_false c17
            clear c17
            (first | rw [c17b0] | (simp only [i64_w, i32_w]; rw [c17b0]) | skip)
            have H' := Aside0.mk H
            clear H
            go_wp2
            repeat (go_quiet (fail); try go_wp2)
            go_meet
            case rel => exact ⟨_, (false), (by first | rfl | (simp; done) | (simp [*]; done)), H', ⟨by have := HK1.out; have := HJ5.out; first | omega | exact Nat.le_refl _⟩, ⟨by refine zm ?_; exact BK344.out⟩, ⟨zh⟩⟩
          case rest =>
           clear HC16
           try clear c1
           try clear c2
           try clear c2b0
           try clear c2b1
           try clear c2b2
           try clear p2
           try clear c3
           try clear c3b0
           try clear c3b1
           try clear p3
           try clear q3
           try clear hx3
           try clear c4
           try clear c4b0
           try clear c5
           try clear c5b0
           try clear p6
           try clear c8
           try clear c10
           try clear c12
           try clear c15
           try clear c17
           try clear c17b0
           try clear c18
           try clear c18b0
           try clear c19
           try clear c19b0
           try clear c21
           try clear c21b0
           try clear c22
           try clear c22b0
           try clear hcz13_0
           try clear hcz13_1
           try clear hcz14_0
           try clear hcz14_1
           try clear hcz8_0
           try clear hcz8_1
           try clear hfz13_0
           try clear hfz13_1
           try clear hfz14_0
           try clear hfz14_1
           try clear hfz8_0
           try clear hfz8_1
           try clear hx343_0
           try clear hx343_1
           try clear hx343_2
           try clear hx345_0
           try clear hx345_1
           try clear hx345_2
           try clear hx348_0
           try clear hx348_1
           try clear hx348_2
           try clear hx349_0
           try clear hx349_1
           try clear hx349_2
           try clear p2
           try clear p3
           try clear p343
           try clear p345
           try clear p348
           try clear p349
           try clear q3
           try clear q343
           try clear q345
           try clear q348
           try clear q349
           obtain ⟨kq, x57_15, rfl, HA, HJ15, BK344, HB⟩ := hcut
           cases kq with
           | zero => exact absurd HA.out (by simp [agonicref05_checked.j2])
           | succ kj15 =>
            have H := HA.out
            clear HA
            simp only [agonicref05_checked.j2] at H
            by_cases c23 : x57_15 = true
            ·subst c23
             rw [if_pos rfl] at H
             obtain rfl := Option.some.inj H
             go_wp2
             repeat (go_quiet (fail); try go_wp2)
             go_ret
             exact ⟨ze, zh⟩
            ·replace c23 := Bool.eq_false_iff.mpr c23
             subst c23
             rw [if_neg (show ¬ (false = true) by decide)] at H
             by_cases c24 : x3_1 > 0
             ·rw [if_pos c24] at H
              have c24b0 : decide (0 < x3_1) = true := decide_eq_true c24
              clear c24
              by_cases c25 : 0 ≤ x3_1
              ·rw [if_pos c25] at H
               have c25b0 : decide (0 ≤ x3_1) = true := decide_eq_true c25
               clear c25
               by_cases c26 : x3_1 < (l0.length : Int)
               ·rw [if_pos c26] at H
                have c26b0 : decide (x3_1 < (l0.length : Int)) = true := decide_eq_true c26
                clear c26
                obtain ⟨ji27, hji27⟩ : ∃ j_ : Int, (wrap64 (x3_1 - 1)) = j_ := ⟨_, rfl⟩
                replace H : (if 0 ≤ (ji27) then (if (ji27) < (l0.length : Int) then (if ((rd_T124 l0 x3_1).f0) < ((rd_T124 l0 (ji27)).f0) then (some 5) else (agonicref05_checked.l0 kj15 l0 (wrap64 (x3_1 + 1)))) else (none)) else (none)) = some r := by first | (rw [hji27] at H; exact H) | (simp only [hji27] at H ⊢; exact H)
                have hji27w : (IntKind.i64.wrap (x3_1 - 1)) = ji27 := (i64_w _).trans hji27
                by_cases c28 : 0 ≤ (ji27)
                ·rw [if_pos c28] at H
                 have c28b0 : decide (0 ≤ (ji27)) = true := decide_eq_true c28
                 clear c28
                 by_cases c29 : (ji27) < (l0.length : Int)
                 ·rw [if_pos c29] at H
                  have c29b0 : decide ((ji27) < (l0.length : Int)) = true := decide_eq_true c29
                  clear c29
                  by_cases c30 : ((rd_T124 l0 x3_1).f0) < ((rd_T124 l0 (ji27)).f0)
                  ·rw [if_pos c30] at H
                   have c30b0 : decide (((rd_T124 l0 x3_1).f0) < ((rd_T124 l0 (ji27)).f0)) = true := decide_eq_true c30
                   clear c30
                   obtain rfl := Option.some.inj H
                   have p350 : 0 ≤ (x3_1 : Int) := zp
                   have q350 : x3_1 < (l0.length : Int) := zp
                   obtain ⟨ad350, e350, hx350_0, hx350_1, hx350_2⟩ := at_T124 HR0.out x3_1 p350 q350
                   obtain rfl : ad343 = ad350 := (by injection e350)
                   replace hx350_0 := (HB.out.cell (World.block_lt_of_cell? w _ hx350_0)).trans hx350_0
                   replace hx350_1 := (HB.out.cell (World.block_lt_of_cell? w _ hx350_1)).trans hx350_1
                   replace hx350_2 := (HB.out.cell (World.block_lt_of_cell? w _ hx350_2)).trans hx350_2
                   replace p350 := eq_true p350
                   replace q350 := eq_true q350
                   have p351 : 0 ≤ ((ji27) : Int) := zp
                   have q351 : (ji27) < (l0.length : Int) := zp
                   obtain ⟨ad351, e351, hx351_0, hx351_1, hx351_2⟩ := at_T124 HR0.out (ji27) p351 q351
                   obtain rfl : ad343 = ad351 := (by injection e351)
                   replace hx351_0 := (HB.out.cell (World.block_lt_of_cell? w _ hx351_0)).trans hx351_0
                   replace hx351_1 := (HB.out.cell (World.block_lt_of_cell? w _ hx351_1)).trans hx351_1
                   replace hx351_2 := (HB.out.cell (World.block_lt_of_cell? w _ hx351_2)).trans hx351_2
                   replace p351 := eq_true p351
                   replace q351 := eq_true q351
                   go_wp2
                   repeat (go_quiet (fail); try go_wp2)
                   go_ret
                   exact ⟨by first | rfl | (simp [errW_none, errW_some] <;> rfl) | (simp only [← hji27]; first | rfl | (simp [errW_none, errW_some] <;> rfl)) | (simp [*, errW_none, errW_some] <;> rfl), zh⟩
                  ·rw [if_neg c30] at H
                   have c30b0 : decide (((rd_T124 l0 x3_1).f0) < ((rd_T124 l0 (ji27)).f0)) = false := decide_eq_false c30
                   clear c30
                   have H' := Aside0.mk H
                   clear H
                   have p350 : 0 ≤ (x3_1 : Int) := zp
                   have q350 : x3_1 < (l0.length : Int) := zp
                   obtain ⟨ad350, e350, hx350_0, hx350_1, hx350_2⟩ := at_T124 HR0.out x3_1 p350 q350
                   obtain rfl : ad343 = ad350 := (by injection e350)
                   replace hx350_0 := (HB.out.cell (World.block_lt_of_cell? w _ hx350_0)).trans hx350_0
                   replace hx350_1 := (HB.out.cell (World.block_lt_of_cell? w _ hx350_1)).trans hx350_1
                   replace hx350_2 := (HB.out.cell (World.block_lt_of_cell? w _ hx350_2)).trans hx350_2
                   replace p350 := eq_true p350
                   replace q350 := eq_true q350
                   have p351 : 0 ≤ ((ji27) : Int) := zp
                   have q351 : (ji27) < (l0.length : Int) := zp
                   obtain ⟨ad351, e351, hx351_0, hx351_1, hx351_2⟩ := at_T124 HR0.out (ji27) p351 q351
                   obtain rfl : ad343 = ad351 := (by injection e351)
                   replace hx351_0 := (HB.out.cell (World.block_lt_of_cell? w _ hx351_0)).trans hx351_0
                   replace hx351_1 := (HB.out.cell (World.block_lt_of_cell? w _ hx351_1)).trans hx351_1
                   replace hx351_2 := (HB.out.cell (World.block_lt_of_cell? w _ hx351_2)).trans hx351_2
                   replace p351 := eq_true p351
                   replace q351 := eq_true q351
                   go_wp2
                   repeat (go_quiet (fail); try go_wp2)
                   go_roundg kj15
                   case measure => have := HK1.out; have := HJ5.out; have := HJ15.out; omega
                   case rel => exact ⟨(wrap64 (x3_1 + 1)), (by first | rfl | (simp; done) | (simp [*]; done)), H', ⟨by have := HK1.out; have := HJ5.out; have := HJ15.out; omega⟩, ⟨zh⟩⟩
                 ·rw [if_neg c29] at H
                  exact absurd H (by simp)
                ·rw [if_neg c28] at H
                 exact absurd H (by simp)
               ·rw [if_neg c26] at H
                exact absurd H (by simp)
              ·rw [if_neg c25] at H
               exact absurd H (by simp)
             ·rw [if_neg c24] at H
              have c24b0 : decide (0 < x3_1) = false := decide_eq_false c24
              clear c24
              have H' := Aside0.mk H
              clear H
              go_wp2
              repeat (go_quiet (fail); try go_wp2)
              go_roundg kj15
              case measure => have := HK1.out; have := HJ5.out; have := HJ15.out; omega
              case rel => exact ⟨(wrap64 (x3_1 + 1)), (by first | rfl | (simp; done) | (simp [*]; done)), H', ⟨by have := HK1.out; have := HJ5.out; have := HJ15.out; omega⟩, ⟨zh⟩⟩
      ·rw [if_neg c5] at H
       exact absurd H (by simp)
     ·rw [if_neg c4] at H
      have c4b0 : decide (x3_1 < (l0.length : Int)) = false := decide_eq_false c4
      clear c4
      obtain rfl := Option.some.inj H
      go_wp2
      repeat (go_quiet (fail); try go_wp2)
      go_ret
      exact ⟨ze, zh⟩
end Go.Proofs.Ytccjefoejjnccaa.C
