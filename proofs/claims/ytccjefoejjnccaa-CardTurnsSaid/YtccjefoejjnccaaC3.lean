-- Written by a program of this session (wip/tools/myprint.py, over the kit's print).
import Derived.Test.YtccjefoejjnccaaC0
import Derived.Test.YtccjefoejjnccaaZ
namespace Go.Proofs.Ytccjefoejjnccaa.C
open Go.RowKit Go.Proofs.YtccjefoejjnccaaW.PrintWords Go.Proofs.YtccjefoejjnccaaW.PrintLast Go.Proofs.YtccjefoejjnccaaW.PrintMore
attribute [local go_sem] max2_int min2_int max_two min_two max_three min_three max_four min_four   -- for this text's walks alone
set_option linter.unusedVariables false
set_option linter.unusedSimpArgs false
def card_Card_known.l0 : Nat → List (S92) → List (S55) → Int → Int → Option ((List (S92)))
 | 0, _, _, _, _ => none
 | k + 1, x3, x6, x7, x8 => if x8 < x7 then (if 0 ≤ x8 then (if x8 < (x6.length : Int) then (if x3.length < 5864062014805 then (card_Card_known.l0 k (x3 ++ [(⟨(rd_T55 x6 x8).f0, (⟨(rd_T55 x6 x8).f1, (rd_T55 x6 x8).f1⟩ : S90)⟩ : S92)]) x6 x7 (wrap64 (x8 + 1))) else (none)) else (none)) else (none)) else (some x3)
def card_Card_known.f (k : Nat) (l0 : List (S55)) : Option ((List (S92))) := card_Card_known.l0 k ([] : List (S92)) l0 (l0.length : Int) 0
set_option maxHeartbeats 8000000 in
set_option maxRecDepth 100000 in
theorem card_Card_known.calls (k : Nat) (A0 : Option Addr) (c0 : Nat) (l0 : List (S55)) (r : List (S92)) (w : World) (hr0 : Kd.C k55 w A0 l0.length l0) (hc0 : l0.length ≤ c0) (h : card_Card_known.f k l0 = some r) :
  Calls Try.prog 61 #[.slice A0 l0.length c0] w fun e w' => ∃ v0_ : Value, e = .returned (v0_) ∧ Kd.R k92 92 w' w.heap.size (fun _ => True) v0_ r ∧ Below w.heap.size w w' := by
 have hu55 := Try.underlying55
 have hu90 := Try.underlying90
 have hu92 := Try.underlying92
 have HR0 := Aside0.mk hr0
 have HC0 := Aside0.mk hc0
 clear hr0 hc0
 have HB := Aside0.mk (Below.refl w.heap.size w)
 have H : (card_Card_known.l0 k ([] : List (S92)) l0 (l0.length : Int) 0) = some r := h
 clear h
 have H' := Aside0.mk H
 clear H
 go_enter Try.func61, Try.ntmps61
 go_wp2
 go_loopg [3, 8] k (fun kq v3 v8 w' => ∃ (x3_1 : List (S92)) (x8_1 : Int), v8 = .int .i64 x8_1 ∧ Aside0 (card_Card_known.l0 kq x3_1 l0 (l0.length : Int) x8_1 = some r) ∧ Aside0 (kq ≤ k) ∧ Aside0 (Kd.R k92 92 w' w.heap.size (fun _ => True) v3 x3_1) ∧ Aside0 (Below w.heap.size w w'))
 case atStart => exact ⟨(([] : List (S92))), (0), (by first | rfl | (simp; done) | (simp [*]; done)), H', ⟨Nat.le_refl _⟩, ⟨by first | exact Kd.R_nil _ _ _ _ _ | exact Kd.N_nil _ _ _ _ _ | exact Kd.V_nil _ _ _ _ _ | exact Kd.Q_nil _ _ _ _ _ | exact Kd.S_nil _ _ _ _ _⟩, ⟨zh⟩⟩
 case round =>
  clear H'
  obtain ⟨x3_1, x8_1, rfl, HA, HK1, HO_3, HB⟩ := hrel
  cases gk with
  | zero => exact absurd HA.out (by simp [card_Card_known.l0])
  | succ k1 =>
   have H := HA.out
   clear HA
   simp only [card_Card_known.l0] at H
   by_cases c2 : x8_1 < (l0.length : Int)
   ·rw [if_pos c2] at H
    have c2b0 : decide (x8_1 < (l0.length : Int)) = true := decide_eq_true c2
    clear c2
    by_cases c3 : 0 ≤ x8_1
    ·rw [if_pos c3] at H
     have c3b0 : decide (0 ≤ x8_1) = true := decide_eq_true c3
     clear c3
     by_cases c4 : x8_1 < (l0.length : Int)
     ·rw [if_pos c4] at H
      have c4b0 : decide (x8_1 < (l0.length : Int)) = true := decide_eq_true c4
      clear c4
      by_cases c5 : x3_1.length < 5864062014805
      ·rw [if_pos c5] at H
       have LMc5 := Aside0.mk c5
       clear c5
       obtain ⟨y103, hy103⟩ : ∃ y_ : List (S92), y_ = (x3_1 ++ [(⟨(rd_T55 l0 x8_1).f0, (⟨(rd_T55 l0 x8_1).f1, (rd_T55 l0 x8_1).f1⟩ : S90)⟩ : S92)]) := ⟨_, rfl⟩
       replace H : (card_Card_known.l0 k1 y103 l0 (l0.length : Int) (wrap64 (x8_1 + 1))) = some r := by first | (rw [hy103]; with_reducible exact H) | (have H2_ := (Option.bind_some _ _).symm.trans H; rw [hy103]; with_reducible exact H2_) | (have H2_ := (Option.bind_some _ _).symm.trans H; with_reducible exact H2_) | with_reducible exact H | (rw [hy103]; exact H) | exact H
       have Ny103 := Aside0.mk hy103
       clear hy103
       have H' := Aside0.mk H
       clear H
       have p101 : 0 ≤ (x8_1 : Int) := zp
       have q101 : x8_1 < (l0.length : Int) := zp
       obtain ⟨ad101, e101, hx101_0, hx101_1⟩ := at_T55 HR0.out x8_1 p101 q101
       cases e101
       replace hx101_0 := (HB.out.cell (World.block_lt_of_cell? w _ hx101_0)).trans hx101_0
       replace hx101_1 := (HB.out.cell (World.block_lt_of_cell? w _ hx101_1)).trans hx101_1
       replace p101 := eq_true p101
       replace q101 := eq_true q101
       go_wp2_with (first | ((with_reducible refine gD 5 rfl ?_); refine zx 5 #[.int .i64 0, .int .i64 0] 55 ?_; intro gb102 hg w6 hbox hb; replace HO_3 := zr HO_3 hb; have BK102 := Aside0.mk (hbox); have GE102 := zG w hg; replace HB := zd hb; clear hb hbox hg; have hcz7_0 : w6.cell? ⟨gb102, 0, none⟩ = some (.int .i64 0) := zy BK102 0; have hcz7_1 : w6.cell? ⟨gb102, 1, none⟩ = some (.int .i64 0) := zy BK102 1; have hfz7_0 := blk_frozen BK102.out 0; have hfz7_1 := blk_frozen BK102.out 1) | ((with_reducible refine gate_builtin (b := .append) (xs := #[.tmp 12, .tmp 21]) rfl ?_); at_builtin; refine Kd.R_append k92 (w0 := w) w.heap.size rfl (.tmp 12) (.tmp 21) 60 92 (.agg #[(.int .i64 0), (.int .i64 0), (.int .i64 0)]) 24 rfl Try.underlying60 info92 rfl (by decide) (by omega) u3 x3_1 (⟨(rd_T55 l0 x8_1).f0, (⟨(rd_T55 l0 x8_1).f1, (rd_T55 l0 x8_1).f1⟩ : S90)⟩ : S92) [.int .i64 ((rd_T55 l0 x8_1).f0), .int .i64 ((rd_T55 l0 x8_1).f1), .int .i64 ((rd_T55 l0 x8_1).f1)] (fun _ => True) (fun _ => False) rfl (by first | (go_simp; done) | (go_simp; rfl)) ?aP (fun _ hk => hk.elim) ?aF ?aO ?aB ?aS ?aL ?_; (case aP => exact k92_mkM _ _ _ (⟨(rd_T55 l0 x8_1).f0, (⟨(rd_T55 l0 x8_1).f1, (rd_T55 l0 x8_1).f1⟩ : S90)⟩ : S92)); (case aB => exact zh); (case aF => exact (fun _ _ => trivial)); (case aO => exact (by refine zl ?_; exact Kd.R_mono (Kd.R_far (p := ⟨gb102, 1, none⟩) (Kd.R_far (p := ⟨gb102, 0, none⟩) (Kd.R_types HO_3.out BK102.out (by decide)) (fun _ hk => hk.2) (.int .i64 ((rd_T55 l0 x8_1).f0))) (fun _ hk => hk.2) (.int .i64 ((rd_T55 l0 x8_1).f1))) (fun _ hk => trivial))); (case aS => exact (below_size zh)); (case aL => have := LMc5.out; omega); intro v104 w8 ho hb hg hat; rw [← Ny103.out] at ho; replace HB := Aside0.mk (hb); have HO105 := Aside0.mk (ho); clear HO_3; clear ho hb hg hat))
       go_roundg k1
       case measure => have := HK1.out; omega
       case rel => exact ⟨(y103), (wrap64 (x8_1 + 1)), (by first | rfl | (simp; done) | (simp [*]; done)), H', ⟨by have := HK1.out; omega⟩, ⟨by refine zl ?_; exact HO105.out⟩, ⟨zh⟩⟩
      ·rw [if_neg c5] at H
       exact absurd H (by simp)
     ·rw [if_neg c4] at H
      exact absurd H (by simp)
    ·rw [if_neg c3] at H
     exact absurd H (by simp)
   ·rw [if_neg c2] at H
    have c2b0 : decide (x8_1 < (l0.length : Int)) = false := decide_eq_false c2
    clear c2
    obtain rfl := Option.some.inj H
    go_wp2
    go_ret
    exact ⟨_, ze, by refine zl ?_; exact HO_3.out, zh⟩
def card_heading.f (a0 : Int) : Option (Bool) := if a0 ≥ 0 then (some (decide (a0 < 3600))) else (some false)
set_option maxHeartbeats 8000000 in
set_option maxRecDepth 100000 in
theorem card_heading.calls (a0 : Int) (r : Bool) (w : World) (h : card_heading.f a0 = some r) :
  Calls Try.prog 52 #[.int .i64 a0] w fun e w' => e = .returned (.bool r) ∧ Drawn0 w w' := by
 have H : (if a0 ≥ 0 then (some (decide (a0 < 3600))) else (some false)) = some r := h
 clear h
 by_cases c2 : a0 ≥ 0
 ·rw [if_pos c2] at H
  have c2b0 : decide (0 ≤ a0) = true := decide_eq_true c2
  clear c2
  obtain rfl := Option.some.inj H
  go_enter Try.func52, Try.ntmps52
  go_wp2
  go_ret
  exact ⟨by first | rfl | (simp; done) | (simp [*]; done), by repeat (first | exact Drawn0.refl _ | apply Drawn0.step)⟩
 ·rw [if_neg c2] at H
  have c2b0 : decide (0 ≤ a0) = false := decide_eq_false c2
  clear c2
  obtain rfl := Option.some.inj H
  go_enter Try.func52, Try.ntmps52
  go_wp2
  go_ret
  exact ⟨by first | rfl | (simp; done) | (simp [*]; done), by repeat (first | exact Drawn0.refl _ | apply Drawn0.step)⟩
def card_wrong.j0 : Nat → Int → Int → Bool → Option (Int)
 | 0, _, _, _ => none
 | k + 1, x0, x1, x7 => if x7 = true then (some 1) else (if x0 = x1 then (some 7) else (if x0 < x1 then (some 5) else (some 0)))
def card_wrong.f (k : Nat) (a0 : Int) (a1 : Int) (a2_0 : Int) (a2_1 : Int) : Option (Int) := (card_heading.f a0).bind fun t107 => (if t107 = true then (if a2_0 < (-900) then (card_wrong.j0 k a0 a1 true) else (if a2_0 > a2_1 then (card_wrong.j0 k a0 a1 true) else (card_wrong.j0 k a0 a1 (decide (a2_1 > 900))))) else (card_wrong.j0 k a0 a1 true))
set_option maxHeartbeats 8000000 in
set_option maxRecDepth 100000 in
theorem card_wrong.calls (k : Nat) (a0 : Int) (a1 : Int) (a2_0 : Int) (a2_1 : Int) (r : Int) (w : World) (h : card_wrong.f k a0 a1 a2_0 a2_1 = some r) :
  Calls Try.prog 89 #[.int .i64 a0, .int .i64 a1, .agg #[.int .i64 a2_0, .int .i64 a2_1]] w fun e w' => e = .returned (.int .i64 r) ∧ Below w.heap.size w w' := by
 have hu90 := Try.underlying90
 have HB := Aside0.mk (Below.refl w.heap.size w)
 have H : ((card_heading.f a0).bind fun t107 => (if t107 = true then (if a2_0 < (-900) then (card_wrong.j0 k a0 a1 true) else (if a2_0 > a2_1 then (card_wrong.j0 k a0 a1 true) else (card_wrong.j0 k a0 a1 (decide (a2_1 > 900))))) else (card_wrong.j0 k a0 a1 true))) = some r := h
 clear h
 have HC4 := Aside0.mk H
 clear H
 go_enter Try.func89, Try.ntmps89
 go_upto_region 1 with (first | ((with_reducible refine gD 5 rfl ?_); refine zx 5 #[.int .i64 a2_0, .int .i64 a2_1] 90 ?_; intro gb106 hg w5 hbox hb; have BK106 := Aside0.mk (hbox); have GE106 := zG w hg; replace HB := zd hb; clear hb hbox hg))
 (try simp only [Act.put, List.setIfInBounds_toArray, List.set_cons_zero, List.set_cons_succ])
 go_cut [7] (fun v7 wc => ∃ (kq : Nat) (x7_3 : Bool), v7 = .bool x7_3 ∧ Aside0 (card_wrong.j0 kq a0 a1 x7_3 = some r) ∧ Aside0 (kq ≤ k) ∧ Aside0 (wc.heap[gb106]? = some (.cells #[.int .i64 a2_0, .int .i64 a2_1] 90 (0, 0))) ∧ Aside0 (Below w.heap.size w wc))
 case first =>
  have H := HC4.out
  clear HC4
  replace H := zi H
  obtain ⟨t107, A60, H⟩ := H
  try dsimp only at H
  have A6 := Aside0.mk A60
  clear A60
  by_cases c7 : t107 = true
  ·subst c7
   rw [if_pos rfl] at H
   by_cases c8 : a2_0 < (-900)
   ·rw [if_pos c8] at H
    have c8b0 : decide (a2_0 < (-900)) = true := decide_eq_true c8
    clear c8
    (first | rw [c8b0] | (simp only [i64_w, i32_w]; rw [c8b0]) | skip)
    have H' := Aside0.mk H
    clear H
    go_wp2_with (first | ((with_reducible refine gC 52 rfl ?_); refine gL 9 Try.func52 #[.int .i64 a0] ?_; (with_reducible refine (card_heading.calls a0 true _ A6.out).mono ?_); rintro e w' ⟨rfl, ⟨nd, rfl⟩⟩; refine ⟨_, rfl, ?_⟩; have hcz9_0 : w5.cell? ⟨gb106, 0, none⟩ = some (.int .i64 a2_0) := zy BK106 0; have hcz9_1 : w5.cell? ⟨gb106, 1, none⟩ = some (.int .i64 a2_1) := zy BK106 1; have hfz9_0 := blk_frozen BK106.out 0; have hfz9_1 := blk_frozen BK106.out 1))
    go_meet
    case rel => exact ⟨_, (true), (by first | rfl | (simp; done) | (simp [*]; done)), H', ⟨by first | omega | exact Nat.le_refl _⟩, ⟨by refine zm ?_; exact BK106.out⟩, ⟨zh⟩⟩
   ·rw [if_neg c8] at H
    have c8b0 : decide (a2_0 < (-900)) = false := decide_eq_false c8
    clear c8
    (first | rw [c8b0] | (simp only [i64_w, i32_w]; rw [c8b0]) | skip)
    by_cases c10 : a2_0 > a2_1
    ·rw [if_pos c10] at H
     have c10b0 : decide (a2_1 < a2_0) = true := decide_eq_true c10
     clear c10
     have H' := Aside0.mk H
     clear H
     go_wp2_with (first | ((with_reducible refine gC 52 rfl ?_); refine gL 9 Try.func52 #[.int .i64 a0] ?_; (with_reducible refine (card_heading.calls a0 true _ A6.out).mono ?_); rintro e w' ⟨rfl, ⟨nd, rfl⟩⟩; refine ⟨_, rfl, ?_⟩; have hcz11_0 : w5.cell? ⟨gb106, 0, none⟩ = some (.int .i64 a2_0) := zy BK106 0; have hcz11_1 : w5.cell? ⟨gb106, 1, none⟩ = some (.int .i64 a2_1) := zy BK106 1; have hfz11_0 := blk_frozen BK106.out 0; have hfz11_1 := blk_frozen BK106.out 1))
     go_meet
     case rel => exact ⟨_, (true), (by first | rfl | (simp; done) | (simp [*]; done)), H', ⟨by first | omega | exact Nat.le_refl _⟩, ⟨by refine zm ?_; exact BK106.out⟩, ⟨zh⟩⟩
    ·rw [if_neg c10] at H
     have c10b0 : decide (a2_1 < a2_0) = false := decide_eq_false c10
     clear c10
     have H' := Aside0.mk H
     clear H
     go_wp2_with (first | ((with_reducible refine gC 52 rfl ?_); refine gL 9 Try.func52 #[.int .i64 a0] ?_; (with_reducible refine (card_heading.calls a0 true _ A6.out).mono ?_); rintro e w' ⟨rfl, ⟨nd, rfl⟩⟩; refine ⟨_, rfl, ?_⟩; have hcz12_0 : w5.cell? ⟨gb106, 0, none⟩ = some (.int .i64 a2_0) := zy BK106 0; have hcz12_1 : w5.cell? ⟨gb106, 1, none⟩ = some (.int .i64 a2_1) := zy BK106 1; have hfz12_0 := blk_frozen BK106.out 0; have hfz12_1 := blk_frozen BK106.out 1))
     go_meet
     case rel => exact ⟨_, (decide (a2_1 > 900)), (by first | rfl | (simp; done) | (simp [*]; done)), H', ⟨by first | omega | exact Nat.le_refl _⟩, ⟨by refine zm ?_; exact BK106.out⟩, ⟨zh⟩⟩
  ·replace c7 := Bool.eq_false_iff.mpr c7
   subst c7
   rw [if_neg (show ¬ (false = true) by decide)] at H
   have H' := Aside0.mk H
   clear H
   go_wp2_with (first | ((with_reducible refine gC 52 rfl ?_); refine gL 9 Try.func52 #[.int .i64 a0] ?_; (with_reducible refine (card_heading.calls a0 false _ A6.out).mono ?_); rintro e w' ⟨rfl, ⟨nd, rfl⟩⟩; refine ⟨_, rfl, ?_⟩))
   go_meet
   case rel => exact ⟨_, (true), (by first | rfl | (simp; done) | (simp [*]; done)), H', ⟨by first | omega | exact Nat.le_refl _⟩, ⟨by refine zm ?_; exact BK106.out⟩, ⟨zh⟩⟩
 case rest =>
  clear HC4
  try clear c1
  try clear p2
  try clear c5
  try clear c7
  try clear c8
  try clear c8b0
  try clear c10
  try clear c10b0
  try clear hcz11_0
  try clear hcz11_1
  try clear hcz12_0
  try clear hcz12_1
  try clear hcz9_0
  try clear hcz9_1
  try clear hfz11_0
  try clear hfz11_1
  try clear hfz12_0
  try clear hfz12_1
  try clear hfz9_0
  try clear hfz9_1
  obtain ⟨kq, x7_3, rfl, HA, HJ3, BK106, HB⟩ := hcut
  cases kq with
  | zero => exact absurd HA.out (by simp [card_wrong.j0])
  | succ kj3 =>
   have H := HA.out
   clear HA
   simp only [card_wrong.j0] at H
   by_cases c13 : x7_3 = true
   ·subst c13
    rw [if_pos rfl] at H
    obtain rfl := Option.some.inj H
    go_wp2
    go_ret
    exact ⟨ze, zh⟩
   ·replace c13 := Bool.eq_false_iff.mpr c13
    subst c13
    rw [if_neg (show ¬ (false = true) by decide)] at H
    by_cases c14 : a0 = a1
    ·rw [if_pos c14] at H
     have c14b0 : (a0 == a1) = true := beq_iff_eq.mpr c14
     have c14b1 : (a0 != a1) = false := bne_eq_false_iff_eq.mpr c14
     clear c14
     obtain rfl := Option.some.inj H
     go_wp2
     go_ret
     exact ⟨ze, zh⟩
    ·rw [if_neg c14] at H
     have c14b0 : (a0 == a1) = false := beq_eq_false_iff_ne.mpr c14
     have c14b1 : (a0 != a1) = true := bne_iff_ne.mpr c14
     by_cases c15 : a0 < a1
     ·rw [if_pos c15] at H
      have c15b0 : decide (a0 < a1) = true := decide_eq_true c15
      clear c15
      obtain rfl := Option.some.inj H
      go_wp2
      go_ret
      exact ⟨ze, zh⟩
     ·rw [if_neg c15] at H
      have c15b0 : decide (a0 < a1) = false := decide_eq_false c15
      clear c15
      obtain rfl := Option.some.inj H
      go_wp2
      go_ret
      exact ⟨ze, zh⟩
def card_Known_check.l0 : Nat → Int → List (S92) → Int → Int → Option (Int)
 | 0, _, _, _, _ => none
 | k + 1, x3, x15, x16, x17 => if x17 < x16 then (if 0 ≤ x17 then (if x17 < (x15.length : Int) then ((card_wrong.f k ((rd_T92 x15 x17).f0) x3 ((rd_T92 x15 x17).f1.f0) ((rd_T92 x15 x17).f1.f1)).bind fun t110 => (if t110 = 0 then (card_Known_check.l0 k ((rd_T92 x15 x17).f0) x15 x16 (wrap64 (x17 + 1))) else (some t110))) else (none)) else (none)) else (some 0)
def card_Known_check.f (k : Nat) (l0 : List (S92)) : Option (Int) := if (l0.length : Int) = 0 then (some 2) else (if (l0.length : Int) > 36 then (some 3) else (card_Known_check.l0 k (-1) l0 (l0.length : Int) 0))
set_option maxHeartbeats 8000000 in
set_option maxRecDepth 100000 in
theorem card_Known_check.calls (k : Nat) (A0 : Option Addr) (c0 : Nat) (l0 : List (S92)) (r : Int) (w : World) (hr0 : Kd.C k92 w A0 l0.length l0) (hc0 : l0.length ≤ c0) (h : card_Known_check.f k l0 = some r) :
  Calls Try.prog 62 #[.slice A0 l0.length c0] w fun e w' => e = .returned (.int .i64 r) ∧ Below w.heap.size w w' := by
 have hu92 := Try.underlying92
 have hu90 := Try.underlying90
 have HR0 := Aside0.mk hr0
 have HC0 := Aside0.mk hc0
 clear hr0 hc0
 have HB := Aside0.mk (Below.refl w.heap.size w)
 have H : (if (l0.length : Int) = 0 then (some 2) else (if (l0.length : Int) > 36 then (some 3) else (card_Known_check.l0 k (-1) l0 (l0.length : Int) 0))) = some r := h
 clear h
 by_cases c2 : (l0.length : Int) = 0
 ·rw [if_pos c2] at H
  have c2b0 : ((l0.length : Int) == 0) = true := beq_iff_eq.mpr c2
  have c2b1 : ((l0.length : Int) != 0) = false := bne_eq_false_iff_eq.mpr c2
  clear c2
  obtain rfl := Option.some.inj H
  go_enter Try.func62, Try.ntmps62
  go_wp2
  go_ret
  exact ⟨ze, zh⟩
 ·rw [if_neg c2] at H
  have c2b0 : ((l0.length : Int) == 0) = false := beq_eq_false_iff_ne.mpr c2
  have c2b1 : ((l0.length : Int) != 0) = true := bne_iff_ne.mpr c2
  have c2b2 : ¬ (l0 = []) := fun h_ => c2 (by rw [h_]; rfl)
  by_cases c3 : (l0.length : Int) > 36
  ·rw [if_pos c3] at H
   have c3b0 : decide (36 < (l0.length : Int)) = true := decide_eq_true c3
   have c3b1 : decide (36 < l0.length) = true := decide_eq_true (by omega)
   clear c3
   obtain rfl := Option.some.inj H
   go_enter Try.func62, Try.ntmps62
   go_wp2
   go_ret
   exact ⟨ze, zh⟩
  ·rw [if_neg c3] at H
   have c3b0 : decide (36 < (l0.length : Int)) = false := decide_eq_false c3
   have c3b1 : decide (36 < l0.length) = false := decide_eq_false (by omega)
   clear c3
   have H' := Aside0.mk H
   clear H
   go_enter Try.func62, Try.ntmps62
   go_wp2
   go_loopg [3, 17] k (fun kq v3 v17 w' => ∃ (x3_1 : Int) (x17_1 : Int), v3 = .int .i64 x3_1 ∧ v17 = .int .i64 x17_1 ∧ Aside0 (card_Known_check.l0 kq x3_1 l0 (l0.length : Int) x17_1 = some r) ∧ Aside0 (kq ≤ k) ∧ Aside0 (Below w.heap.size w w'))
   case atStart => exact ⟨((-1)), (0), (by first | rfl | (simp; done) | (simp [*]; done)), (by first | rfl | (simp; done) | (simp [*]; done)), H', ⟨Nat.le_refl _⟩, ⟨zh⟩⟩
   case round =>
    clear H'
    try clear c2
    try clear c2b0
    try clear c2b1
    try clear c2b2
    try clear p2
    try clear c3
    try clear c3b0
    try clear c3b1
    obtain ⟨x3_1, x17_1, rfl, rfl, HA, HK1, HB⟩ := hrel
    cases gk with
    | zero => exact absurd HA.out (by simp [card_Known_check.l0])
    | succ k1 =>
     have H := HA.out
     clear HA
     simp only [card_Known_check.l0] at H
     by_cases c4 : x17_1 < (l0.length : Int)
     ·rw [if_pos c4] at H
      have c4b0 : decide (x17_1 < (l0.length : Int)) = true := decide_eq_true c4
      clear c4
      by_cases c5 : 0 ≤ x17_1
      ·rw [if_pos c5] at H
       have c5b0 : decide (0 ≤ x17_1) = true := decide_eq_true c5
       clear c5
       by_cases c6 : x17_1 < (l0.length : Int)
       ·rw [if_pos c6] at H
        have c6b0 : decide (x17_1 < (l0.length : Int)) = true := decide_eq_true c6
        clear c6
        replace H := zi H
        obtain ⟨t110, A70, H⟩ := H
        try dsimp only at H
        have A7 := Aside0.mk A70
        clear A70
        by_cases c8 : t110 = 0
        ·rw [if_pos c8] at H
         have c8b0 : (t110 == 0) = true := beq_iff_eq.mpr c8
         have c8b1 : (t110 != 0) = false := bne_eq_false_iff_eq.mpr c8
         clear c8
         have H' := Aside0.mk H
         clear H
         have p108 : 0 ≤ (x17_1 : Int) := zp
         have q108 : x17_1 < (l0.length : Int) := zp
         obtain ⟨ad108, e108, hx108_0, hx108_1, hx108_2⟩ := at_T92 HR0.out x17_1 p108 q108
         cases e108
         replace hx108_0 := (HB.out.cell (World.block_lt_of_cell? w _ hx108_0)).trans hx108_0
         replace hx108_1 := (HB.out.cell (World.block_lt_of_cell? w _ hx108_1)).trans hx108_1
         replace hx108_2 := (HB.out.cell (World.block_lt_of_cell? w _ hx108_2)).trans hx108_2
         replace p108 := eq_true p108
         replace q108 := eq_true q108
         go_wp2_with (first | ((with_reducible refine gD 5 rfl ?_); refine zx 5 #[.int .i64 0, .int .i64 0, .int .i64 0] 92 ?_; intro gb109 hg w9 hbox hb; have BK109 := Aside0.mk (hbox); have GE109 := zG w hg; replace HB := zd hb; clear hb hbox hg; have hcz10_0 : w9.cell? ⟨gb109, 0, none⟩ = some (.int .i64 0) := zy BK109 0; have hcz10_1 : w9.cell? ⟨gb109, 1, none⟩ = some (.int .i64 0) := zy BK109 1; have hcz10_2 : w9.cell? ⟨gb109, 2, none⟩ = some (.int .i64 0) := zy BK109 2; have hfz10_0 := blk_frozen BK109.out 0; have hfz10_1 := blk_frozen BK109.out 1; have hfz10_2 := blk_frozen BK109.out 2) | ((with_reducible refine gC 89 rfl ?_); refine gL 26 Try.func89 #[.int .i64 ((rd_T92 l0 x17_1).f0), .int .i64 x3_1, .agg #[.int .i64 ((rd_T92 l0 x17_1).f1.f0), .int .i64 ((rd_T92 l0 x17_1).f1.f1)]] ?_; (with_reducible refine (card_wrong.calls k1 ((rd_T92 l0 x17_1).f0) x3_1 ((rd_T92 l0 x17_1).f1.f0) ((rd_T92 l0 x17_1).f1.f1) t110 _ A7.out).mono ?_); rintro e w11 ⟨rfl, hb⟩; refine ⟨_, rfl, ?_⟩; replace BK109 := Aside0.mk (blk_below (g := gb109) (o := .cells #[.int .i64 ((rd_T92 l0 x17_1).f0), .int .i64 ((rd_T92 l0 x17_1).f1.f0), .int .i64 ((rd_T92 l0 x17_1).f1.f1)] 92 (0, 0)) (by refine zm ?_; refine blk_put (cs := #[.int .i64 ((rd_T92 l0 x17_1).f0), .int .i64 ((rd_T92 l0 x17_1).f1.f0), .int .i64 0]) ?_ 2 _ rfl; refine zm ?_; refine blk_put (cs := #[.int .i64 ((rd_T92 l0 x17_1).f0), .int .i64 0, .int .i64 0]) ?_ 1 _ rfl; refine zm ?_; refine blk_put (cs := #[.int .i64 0, .int .i64 0, .int .i64 0]) ?_ 0 _ rfl; refine zm ?_; exact BK109.out) hb); replace HB := zd hb; (try clear hb); have hcz12_0 : w11.cell? ⟨gb109, 0, none⟩ = some (.int .i64 ((rd_T92 l0 x17_1).f0)) := zy BK109 0; have hcz12_1 : w11.cell? ⟨gb109, 1, none⟩ = some (.int .i64 ((rd_T92 l0 x17_1).f1.f0)) := zy BK109 1; have hcz12_2 : w11.cell? ⟨gb109, 2, none⟩ = some (.int .i64 ((rd_T92 l0 x17_1).f1.f1)) := zy BK109 2; have hfz12_0 := blk_frozen BK109.out 0; have hfz12_1 := blk_frozen BK109.out 1; have hfz12_2 := blk_frozen BK109.out 2))
         go_roundg k1
         case measure => have := HK1.out; omega
         case rel => exact ⟨((rd_T92 l0 x17_1).f0), (wrap64 (x17_1 + 1)), (by first | rfl | (simp; done) | (simp [*]; done)), (by first | rfl | (simp; done) | (simp [*]; done)), H', ⟨by have := HK1.out; omega⟩, ⟨zh⟩⟩
        ·rw [if_neg c8] at H
         have c8b0 : (t110 == 0) = false := beq_eq_false_iff_ne.mpr c8
         have c8b1 : (t110 != 0) = true := bne_iff_ne.mpr c8
         obtain rfl := Option.some.inj H
         have p108 : 0 ≤ (x17_1 : Int) := zp
         have q108 : x17_1 < (l0.length : Int) := zp
         obtain ⟨ad108, e108, hx108_0, hx108_1, hx108_2⟩ := at_T92 HR0.out x17_1 p108 q108
         cases e108
         replace hx108_0 := (HB.out.cell (World.block_lt_of_cell? w _ hx108_0)).trans hx108_0
         replace hx108_1 := (HB.out.cell (World.block_lt_of_cell? w _ hx108_1)).trans hx108_1
         replace hx108_2 := (HB.out.cell (World.block_lt_of_cell? w _ hx108_2)).trans hx108_2
         replace p108 := eq_true p108
         replace q108 := eq_true q108
         go_wp2_with (first | ((with_reducible refine gD 5 rfl ?_); refine zx 5 #[.int .i64 0, .int .i64 0, .int .i64 0] 92 ?_; intro gb109 hg w13 hbox hb; have BK109 := Aside0.mk (hbox); have GE109 := zG w hg; replace HB := zd hb; clear hb hbox hg; have hcz14_0 : w13.cell? ⟨gb109, 0, none⟩ = some (.int .i64 0) := zy BK109 0; have hcz14_1 : w13.cell? ⟨gb109, 1, none⟩ = some (.int .i64 0) := zy BK109 1; have hcz14_2 : w13.cell? ⟨gb109, 2, none⟩ = some (.int .i64 0) := zy BK109 2; have hfz14_0 := blk_frozen BK109.out 0; have hfz14_1 := blk_frozen BK109.out 1; have hfz14_2 := blk_frozen BK109.out 2) | ((with_reducible refine gC 89 rfl ?_); refine gL 26 Try.func89 #[.int .i64 ((rd_T92 l0 x17_1).f0), .int .i64 x3_1, .agg #[.int .i64 ((rd_T92 l0 x17_1).f1.f0), .int .i64 ((rd_T92 l0 x17_1).f1.f1)]] ?_; (with_reducible refine (card_wrong.calls k1 ((rd_T92 l0 x17_1).f0) x3_1 ((rd_T92 l0 x17_1).f1.f0) ((rd_T92 l0 x17_1).f1.f1) t110 _ A7.out).mono ?_); rintro e w15 ⟨rfl, hb⟩; refine ⟨_, rfl, ?_⟩; replace HB := zd hb; (try clear hb)))
         go_ret
         exact ⟨ze, zh⟩
       ·rw [if_neg c6] at H
        exact absurd H (by simp)
      ·rw [if_neg c5] at H
       exact absurd H (by simp)
     ·rw [if_neg c4] at H
      have c4b0 : decide (x17_1 < (l0.length : Int)) = false := decide_eq_false c4
      clear c4
      obtain rfl := Option.some.inj H
      go_wp2
      go_ret
      exact ⟨ze, zh⟩
def card_Check.f (k : Nat) (l0 : List (S55)) : Option (Int) := (card_Card_known.f k l0).bind fun t111 => ((card_Known_check.f k t111).bind fun t114 => (some t114))
set_option maxHeartbeats 8000000 in
set_option maxRecDepth 100000 in
theorem card_Check.calls (k : Nat) (A0 : Option Addr) (c0 : Nat) (l0 : List (S55)) (r : Int) (w : World) (hr0 : Kd.C k55 w A0 l0.length l0) (hc0 : l0.length ≤ c0) (h : card_Check.f k l0 = some r) :
  Calls Try.prog 21 #[.slice A0 l0.length c0] w fun e w' => e = .returned (.int .i64 r) ∧ Below w.heap.size w w' := by
 have HR0 := Aside0.mk hr0
 have HC0 := Aside0.mk hc0
 clear hr0 hc0
 have HB := Aside0.mk (Below.refl w.heap.size w)
 have H : ((card_Card_known.f k l0).bind fun t111 => ((card_Known_check.f k t111).bind fun t114 => (some t114))) = some r := h
 clear h
 replace H := zi H
 obtain ⟨t111, A20, H⟩ := H
 try dsimp only at H
 have A2 := Aside0.mk A20
 clear A20
 replace H := zi H
 obtain ⟨t114, A30, H⟩ := H
 try dsimp only at H
 have A3 := Aside0.mk A30
 clear A30
 obtain rfl := Option.some.inj H
 go_enter Try.func21, Try.ntmps21
 go_wp2_with (first | ((with_reducible refine gC 61 rfl ?_); refine gL 4 Try.func61 #[.slice A0 l0.length c0] ?_; (with_reducible refine (card_Card_known.calls k _ _ l0 t111 _ ?side1 ?side2 A2.out).mono ?_); (case side1 => exact zc HR0.out); (case side2 => exact HC0.out); rintro e w4 ⟨v112, rfl, ho0, hb⟩; refine ⟨_, rfl, ?_⟩; have HO113 := Aside0.mk (Kd.R_lower ho0 (below_size zh)); replace HB := zd hb; (try clear hb); (try clear ho0); obtain ⟨Ao5, co5, eo5⟩ := Kd.R_slice HO113.out; subst eo5) | ((with_reducible refine gC 62 rfl ?_); refine gL 5 Try.func62 #[.slice Ao5 t111.length co5] ?_; (with_reducible refine (card_Known_check.calls k _ _ t111 t114 _ ?side1 ?side2 A3.out).mono ?_); (case side1 => exact zc (Kd.R_reads' HO113.out).2.2); (case side2 => exact (Kd.R_reads' HO113.out).2.1); rintro e w6 ⟨rfl, hb⟩; refine ⟨_, rfl, ?_⟩; replace HB := zd hb; (try clear hb)))
 go_ret
 exact ⟨ze, zh⟩
def card_whole.f (a0 : Int) : Option (Int × Int) := some (a0, 1)
set_option maxHeartbeats 8000000 in
set_option maxRecDepth 100000 in
theorem card_whole.calls (a0 : Int) (r1 : Int) (r2 : Int) (w : World) (h : card_whole.f a0 = some (r1, r2)) :
  Calls Try.prog 54 #[.int .i64 a0] w fun e w' => e = .returned (.agg #[.int .i64 r1, .int .i64 r2]) ∧ Below w.heap.size w w' := by
 have hu101 := Try.underlying101
 have HB := Aside0.mk (Below.refl w.heap.size w)
 have H : (some (a0, 1)) = some (r1, r2) := h
 clear h
 simp only [Option.some.injEq, Prod.mk.injEq] at H
 obtain ⟨rfl, rfl⟩ := H
 go_enter Try.func54, Try.ntmps54
 go_wp2_with (first | ((with_reducible refine gD 2 rfl ?_); refine zx 2 #[.int .i64 0, .int .i64 0] 101 ?_; intro gb115 hg w2 hbox hb; have BK115 := Aside0.mk (hbox); have GE115 := zG w hg; replace HB := zd hb; clear hb hbox hg; have hcz3_0 : w2.cell? ⟨gb115, 0, none⟩ = some (.int .i64 0) := zy BK115 0; have hcz3_1 : w2.cell? ⟨gb115, 1, none⟩ = some (.int .i64 0) := zy BK115 1; have hfz3_0 := blk_frozen BK115.out 0; have hfz3_1 := blk_frozen BK115.out 1))
 refine bodyPost_ret (results_cell_row rfl _ _ gb115 101 #[.int .i64 a0, .int .i64 1] (0, 0) _ rfl (by refine zm ?_; refine blk_put (cs := #[.int .i64 a0, .int .i64 0]) ?_ 1 _ rfl; refine zm ?_; refine blk_put (cs := #[.int .i64 0, .int .i64 0]) ?_ 0 _ rfl; refine zm ?_; exact BK115.out) Try.underlying101 rfl (by kernel_rfl)) rfl ?_
 exact ⟨ze, zh⟩
def card_divisor.l0 : Nat → Int → Int → Option (Int)
 | 0, _, _ => none
 | k + 1, x0, x1 => if x1 > 0 then (if x1 = 0 then (none) else (card_divisor.l0 k x1 (Int.tmod x0 x1))) else (some x0)
def card_divisor.f (k : Nat) (a0 : Int) (a1 : Int) : Option (Int) := card_divisor.l0 k (mx a0 (wrap64 (-a0))) (mx a1 (wrap64 (-a1)))
set_option maxHeartbeats 8000000 in
set_option maxRecDepth 100000 in
theorem card_divisor.calls (k : Nat) (a0 : Int) (a1 : Int) (r : Int) (w : World) (h : card_divisor.f k a0 a1 = some r) :
  Calls Try.prog 96 #[.int .i64 a0, .int .i64 a1] w fun e w' => e = .returned (.int .i64 r) ∧ Below w.heap.size w w' := by
 have HB := Aside0.mk (Below.refl w.heap.size w)
 have H : (card_divisor.l0 k (mx a0 (wrap64 (-a0))) (mx a1 (wrap64 (-a1)))) = some r := h
 clear h
 obtain ⟨ji3, hji3⟩ : ∃ j_ : Int, (mx a0 (wrap64 (-a0))) = j_ := ⟨_, rfl⟩
 replace H : (card_divisor.l0 k ji3 (mx a1 (wrap64 (-a1)))) = some r := by first | (rw [hji3] at H; exact H) | (simp only [hji3] at H ⊢; exact H)
 have hji3_ : (if a0 < (wrap64 (-a0)) then (wrap64 (-a0)) else a0) = ji3 := hji3
 obtain ⟨ji4, hji4⟩ : ∃ j_ : Int, (mx a1 (wrap64 (-a1))) = j_ := ⟨_, rfl⟩
 replace H : (card_divisor.l0 k ji3 ji4) = some r := by first | (rw [hji4] at H; exact H) | (simp only [hji4] at H ⊢; exact H)
 have hji4_ : (if a1 < (wrap64 (-a1)) then (wrap64 (-a1)) else a1) = ji4 := hji4
 have H' := Aside0.mk H
 clear H
 go_enter Try.func96, Try.ntmps96
 go_wp2
 repeat (go_quiet (fail); try go_wp2)
 go_loopg [0, 1] k (fun kq v0 v1 w' => ∃ (x0_1 : Int) (x1_1 : Int), v0 = .int .i64 x0_1 ∧ v1 = .int .i64 x1_1 ∧ Aside0 (card_divisor.l0 kq x0_1 x1_1 = some r) ∧ Aside0 (kq ≤ k) ∧ Aside0 (Below w.heap.size w w'))
 case atStart => exact ⟨(ji3), (ji4), (by first | rfl | (simp; done) | (simp only [← hji3] <;> (first | rfl | simp)) | (simp [*]; done)), (by first | rfl | (simp; done) | (simp only [← hji4] <;> (first | rfl | simp)) | (simp [*]; done)), H', ⟨Nat.le_refl _⟩, ⟨zh⟩⟩
 case round =>
  clear H'
  try clear p2
  obtain ⟨x0_1, x1_1, rfl, rfl, HA, HK1, HB⟩ := hrel
  cases gk with
  | zero => exact absurd HA.out (by simp [card_divisor.l0])
  | succ k1 =>
   have H := HA.out
   clear HA
   simp only [card_divisor.l0] at H
   by_cases c5 : x1_1 > 0
   ·rw [if_pos c5] at H
    have c5b0 : decide (0 < x1_1) = true := decide_eq_true c5
    clear c5
    by_cases c6 : x1_1 = 0
    ·rw [if_pos c6] at H
     exact absurd H (by simp)
    ·rw [if_neg c6] at H
     have c6b0 : (x1_1 == 0) = false := beq_eq_false_iff_ne.mpr c6
     have c6b1 : (x1_1 != 0) = true := bne_iff_ne.mpr c6
     have H' := Aside0.mk H
     clear H
     go_wp2
     repeat (go_quiet (fail); try go_wp2)
     go_roundg k1
     case measure => have := HK1.out; omega
     case rel => exact ⟨(x1_1), (Int.tmod x0_1 x1_1), (by first | rfl | (simp; done) | (simp [*]; done)), (by first | rfl | (simp; done) | (simp [*]; done)), H', ⟨by have := HK1.out; omega⟩, ⟨zh⟩⟩
   ·rw [if_neg c5] at H
    have c5b0 : decide (0 < x1_1) = false := decide_eq_false c5
    clear c5
    obtain rfl := Option.some.inj H
    go_wp2
    repeat (go_quiet (fail); try go_wp2)
    go_ret
    exact ⟨by first | rfl | (simp [errW_none, errW_some] <;> rfl) | (simp only [← hji3, ← hji4]; first | rfl | (simp [errW_none, errW_some] <;> rfl)) | (simp [*, errW_none, errW_some] <;> rfl), zh⟩
def card_ratio_plain.f (k : Nat) (a0_0 : Int) (a0_1 : Int) : Option (Int × Int) := if a0_1 < 0 then ((card_divisor.f k (wrap64 (-a0_0)) (wrap64 (-a0_1))).bind fun t118 => (if t118 = 0 then (none) else (some (wrap64 (Int.tdiv (wrap64 (-a0_0)) t118), wrap64 (Int.tdiv (wrap64 (-a0_1)) t118))))) else ((card_divisor.f k a0_0 a0_1).bind fun t119 => (if t119 = 0 then (none) else (some (wrap64 (Int.tdiv a0_0 t119), wrap64 (Int.tdiv a0_1 t119)))))
def card_ratio_plain.T4 : Bool × List (List Nat × List Nat) := (true, [([], []), ([0], [0]), ([], []), ([1, 2], [1, 2]), ([], []), ([4], [4]), ([], []), ([5, 6], [5, 6]), ([3, 7], [3, 7]), ([8, 0, 1, 2, 3, 4, 5, 6, 7, 8], [8])])
def card_ratio_plain.B4 : List Nat := [0, 1, 0, 7, 0, 16, 0, 112, 255, 511]
theorem card_ratio_plain.tab4 : rtab .any (opsOf Try.f88 4) = card_ratio_plain.T4 := by kernel_rfl
theorem card_ratio_plain.bits4 : waitsOk card_ratio_plain.T4.2 card_ratio_plain.B4 = true := by kernel_rfl
set_option maxHeartbeats 8000000 in
set_option maxRecDepth 100000 in
theorem card_ratio_plain.calls (k : Nat) (a0_0 : Int) (a0_1 : Int) (r1 : Int) (r2 : Int) (w : World) (h : card_ratio_plain.f k a0_0 a0_1 = some (r1, r2)) :
  Calls Try.prog 88 #[.agg #[.int .i64 a0_0, .int .i64 a0_1]] w fun e w' => e = .returned (.agg #[.int .i64 r1, .int .i64 r2]) ∧ Below w.heap.size w w' := by
 have hu101 := Try.underlying101
 have HB := Aside0.mk (Below.refl w.heap.size w)
 have H : (if a0_1 < 0 then ((card_divisor.f k (wrap64 (-a0_0)) (wrap64 (-a0_1))).bind fun t118 => (if t118 = 0 then (none) else (some (wrap64 (Int.tdiv (wrap64 (-a0_0)) t118), wrap64 (Int.tdiv (wrap64 (-a0_1)) t118))))) else ((card_divisor.f k a0_0 a0_1).bind fun t119 => (if t119 = 0 then (none) else (some (wrap64 (Int.tdiv a0_0 t119), wrap64 (Int.tdiv a0_1 t119)))))) = some (r1, r2) := h
 clear h
 by_cases c2 : a0_1 < 0
 ·rw [if_pos c2] at H
  have c2b0 : decide (a0_1 < 0) = true := decide_eq_true c2
  clear c2
  replace H := zi H
  obtain ⟨t118, A30, H⟩ := H
  try dsimp only at H
  have A3 := Aside0.mk A30
  clear A30
  by_cases c4 : t118 = 0
  ·rw [if_pos c4] at H
   exact absurd H (by simp)
  ·rw [if_neg c4] at H
   have c4b0 : (t118 == 0) = false := beq_eq_false_iff_ne.mpr c4
   have c4b1 : (t118 != 0) = true := bne_iff_ne.mpr c4
   simp only [Option.some.injEq, Prod.mk.injEq] at H
   obtain ⟨rfl, rfl⟩ := H
   go_enter Try.func88, Try.ntmps88
   try go_wp2_with (first | ((with_reducible refine gD 1 rfl ?_); refine zx 1 #[.int .i64 a0_0, .int .i64 a0_1] 101 ?_; intro gb116 hg w5 hbox hb; have BK116 := Aside0.mk (hbox); have GE116 := zG w hg; replace HB := zd hb; clear hb hbox hg) | ((with_reducible refine gD 2 rfl ?_); refine zx 2 #[.int .i64 0, .int .i64 0] 101 ?_; intro gb117 hg w6 hbox hb; have BK117 := Aside0.mk (hbox); have GE117 := zG w hg; replace HB := zd hb; have NB116_117 := zN BK116 hg; have NB117_116 := zM BK116 hg; replace BK116 := zk BK116 hb; clear hb hbox hg; have hnb7 := NB116_117.out; have hnc7 := NB117_116.out; have hcz8_0 : w6.cell? ⟨gb116, 0, none⟩ = some (.int .i64 a0_0) := zy BK116 0; have hcz8_1 : w6.cell? ⟨gb116, 1, none⟩ = some (.int .i64 a0_1) := zy BK116 1; have hfz8_0 := blk_frozen BK116.out 0; have hfz8_1 := blk_frozen BK116.out 1) | ((with_reducible refine gC 96 rfl ?_); refine gL 18 Try.func96 #[.int .i64 (wrap64 (-a0_0)), .int .i64 (wrap64 (-a0_1))] ?_; (with_reducible refine (card_divisor.calls k (wrap64 (-a0_0)) (wrap64 (-a0_1)) t118 _ A3.out).mono ?_); rintro e w9 ⟨rfl, hb⟩; refine ⟨_, rfl, ?_⟩; replace BK116 := Aside0.mk (blk_below (g := gb116) (o := .cells #[.int .i64 (wrap64 (-a0_0)), .int .i64 (wrap64 (-a0_1))] 101 (0, 0)) (by refine zm ?_; refine blk_put (cs := #[.int .i64 (wrap64 (-a0_0)), .int .i64 a0_1]) ?_ 1 _ rfl; refine zm ?_; refine blk_put (cs := #[.int .i64 a0_0, .int .i64 a0_1]) ?_ 0 _ rfl; refine zm ?_; exact BK116.out) hb); replace BK117 := Aside0.mk (blk_below (g := gb117) (o := .cells #[.int .i64 0, .int .i64 0] 101 (0, 0)) (by refine zm ?_; refine blk_far ?_ NB117_116.out _; refine zm ?_; refine blk_far ?_ NB117_116.out _; refine zm ?_; exact BK117.out) hb); replace HB := zd hb; (try clear hb)))
   replace BK116 := Aside0.mk (blk_drew BK116.out)
   replace BK117 := Aside0.mk (blk_drew BK117.out)
   replace HB := Aside0.mk (below_drew1 HB.out)
   refine start_ (n := 10) (S := fun w' => w'.cell? ⟨gb116, 0, none⟩ = some (.int .i64 (wrap64 (-a0_0))) ∧ w'.cell? ⟨gb116, 1, none⟩ = some (.int .i64 (wrap64 (-a0_1)))) (ds := []) #[false, false, false, false, false, false, false, false, false, false] (by kernel_rfl) rfl rfl ⟨zy BK116 0, zy BK116 1⟩ (fun hHeld => ?_); refine with_tabW card_ratio_plain.tab4 card_ratio_plain.bits4 (fun HT_ HW_ => ?_)
   generalize w9.drew = w10 at BK116 BK117 HB hHeld ⊢
   refine pq HT_ 0 19 10 1 ?_
   refine pq HT_ 2 21 10 5 ?_
   refine pq HT_ 4 23 10 21 ?_
   refine pq HT_ 6 25 10 85 ?_
   refine take_ (i := 1) (N := some 20) (v := ?_) (a' := ?_) #[true, true, true, false, true, false, true, false, false, false] rfl rfl (take_ofW HT_.out HW_.out (by kernel_rfl)) (fun _ _ _ h => h) (Or.inl ⟨by rfl, ?_⟩) hHeld ?_ ?_
   rotate_left
   ·rintro w' ⟨s0, s1⟩
    go_simp
    with_reducible rfl
   rotate_left
   ·simp only [Act.put, List.setIfInBounds_toArray, List.set_cons_zero, List.set_cons_succ, i64_w, i32_w]
    rfl
   refine pq HT_ 3 22 10 95 ?_
   refine take_ (i := 5) (N := some 24) (v := ?_) (a' := ?_) #[true, true, true, true, true, true, true, false, false, false] rfl rfl (take_ofW HT_.out HW_.out (by kernel_rfl)) (fun _ _ _ h => h) (Or.inl ⟨by rfl, ?_⟩) hHeld ?_ ?_
   rotate_left
   ·rintro w' ⟨s0, s1⟩
    go_simp
    with_reducible rfl
   rotate_left
   ·simp only [Act.put, List.setIfInBounds_toArray, List.set_cons_zero, List.set_cons_succ, i64_w, i32_w]
    rfl
   refine pq HT_ 7 26 10 255 ?_
   refine pq HT_ 8 27 10 511 ?_
   refine one_ (i := 9) (N := none) #[true, true, true, true, true, true, true, true, true, true] rfl rfl (one_of HT_.out (by kernel_rfl)) (by decide) (fun K hK => ?_)
   have hs11 : w10.cell? ⟨gb117, 0, none⟩ = some (.int .i64 0) := zy BK117 0
   have hfs11 := blk_frozen BK117.out 0
   have hns11_0 := NB116_117.out
   have hms11_0 := NB117_116.out
   have hs12 : w10.cell? ⟨gb117, 1, none⟩ = some (.int .i64 0) := zy BK117 1
   have hfs12 := blk_frozen BK117.out 1
   have hns12_0 := NB116_117.out
   have hms12_0 := NB117_116.out
   refine skip_ (w1 := ?_) (by rfl) rfl ?_ ?_
   rotate_left
   ·go_simp
    rfl
   refine hK.out _ _ ⟨((cell_far (p := ⟨gb117, _, none⟩) NB116_117.out _).trans (((cell_far (p := ⟨gb117, _, none⟩) NB116_117.out _).trans (hHeld.1)))), ((cell_far (p := ⟨gb117, _, none⟩) NB116_117.out _).trans (((cell_far (p := ⟨gb117, _, none⟩) NB116_117.out _).trans (hHeld.2))))⟩ (fun hHeld => ?_)
   clear hK K
   refine done_ (done_of HT_.out (by kernel_rfl)) ?_
   try go_wp2
   refine bodyPost_ret (results_cell_row rfl _ _ gb117 101 #[.int .i64 (wrap64 (Int.tdiv (wrap64 (-a0_0)) t118)), .int .i64 (wrap64 (Int.tdiv (wrap64 (-a0_1)) t118))] (0, 0) _ rfl (by refine zm ?_; refine blk_put (cs := #[.int .i64 (wrap64 (Int.tdiv (wrap64 (-a0_0)) t118)), .int .i64 0]) ?_ 1 _ rfl; refine zm ?_; refine blk_put (cs := #[.int .i64 0, .int .i64 0]) ?_ 0 _ rfl; refine zm ?_; exact BK117.out) Try.underlying101 rfl (by kernel_rfl)) rfl ?_
   exact ⟨ze, zh⟩
 ·rw [if_neg c2] at H
  have c2b0 : decide (a0_1 < 0) = false := decide_eq_false c2
  clear c2
  replace H := zi H
  obtain ⟨t119, A130, H⟩ := H
  try dsimp only at H
  have A13 := Aside0.mk A130
  clear A130
  by_cases c14 : t119 = 0
  ·rw [if_pos c14] at H
   exact absurd H (by simp)
  ·rw [if_neg c14] at H
   have c14b0 : (t119 == 0) = false := beq_eq_false_iff_ne.mpr c14
   have c14b1 : (t119 != 0) = true := bne_iff_ne.mpr c14
   simp only [Option.some.injEq, Prod.mk.injEq] at H
   obtain ⟨rfl, rfl⟩ := H
   go_enter Try.func88, Try.ntmps88
   try go_wp2_with (first | ((with_reducible refine gD 1 rfl ?_); refine zx 1 #[.int .i64 a0_0, .int .i64 a0_1] 101 ?_; intro gb116 hg w15 hbox hb; have BK116 := Aside0.mk (hbox); have GE116 := zG w hg; replace HB := zd hb; clear hb hbox hg) | ((with_reducible refine gD 2 rfl ?_); refine zx 2 #[.int .i64 0, .int .i64 0] 101 ?_; intro gb117 hg w16 hbox hb; have BK117 := Aside0.mk (hbox); have GE117 := zG w hg; replace HB := zd hb; have NB116_117 := zN BK116 hg; have NB117_116 := zM BK116 hg; replace BK116 := zk BK116 hb; clear hb hbox hg; have hnb17 := NB116_117.out; have hnc17 := NB117_116.out; have hcz18_0 : w16.cell? ⟨gb116, 0, none⟩ = some (.int .i64 a0_0) := zy BK116 0; have hcz18_1 : w16.cell? ⟨gb116, 1, none⟩ = some (.int .i64 a0_1) := zy BK116 1; have hfz18_0 := blk_frozen BK116.out 0; have hfz18_1 := blk_frozen BK116.out 1) | ((with_reducible refine gC 96 rfl ?_); refine gL 18 Try.func96 #[.int .i64 a0_0, .int .i64 a0_1] ?_; (with_reducible refine (card_divisor.calls k a0_0 a0_1 t119 _ A13.out).mono ?_); rintro e w19 ⟨rfl, hb⟩; refine ⟨_, rfl, ?_⟩; replace BK116 := zk BK116 hb; replace BK117 := zk BK117 hb; replace HB := zd hb; (try clear hb)))
   replace BK116 := Aside0.mk (blk_drew BK116.out)
   replace BK117 := Aside0.mk (blk_drew BK117.out)
   replace HB := Aside0.mk (below_drew1 HB.out)
   refine start_ (n := 10) (S := fun w' => w'.cell? ⟨gb116, 0, none⟩ = some (.int .i64 a0_0) ∧ w'.cell? ⟨gb116, 1, none⟩ = some (.int .i64 a0_1)) (ds := []) #[false, false, false, false, false, false, false, false, false, false] (by kernel_rfl) rfl rfl ⟨zy BK116 0, zy BK116 1⟩ (fun hHeld => ?_); refine with_tabW card_ratio_plain.tab4 card_ratio_plain.bits4 (fun HT_ HW_ => ?_)
   generalize w19.drew = w20 at BK116 BK117 HB hHeld ⊢
   refine pq HT_ 0 19 10 1 ?_
   refine pq HT_ 2 21 10 5 ?_
   refine pq HT_ 4 23 10 21 ?_
   refine pq HT_ 6 25 10 85 ?_
   refine take_ (i := 1) (N := some 20) (v := ?_) (a' := ?_) #[true, true, true, false, true, false, true, false, false, false] rfl rfl (take_ofW HT_.out HW_.out (by kernel_rfl)) (fun _ _ _ h => h) (Or.inl ⟨by rfl, ?_⟩) hHeld ?_ ?_
   rotate_left
   ·rintro w' ⟨s0, s1⟩
    go_simp
    with_reducible rfl
   rotate_left
   ·simp only [Act.put, List.setIfInBounds_toArray, List.set_cons_zero, List.set_cons_succ, i64_w, i32_w]
    rfl
   refine pq HT_ 3 22 10 95 ?_
   refine take_ (i := 5) (N := some 24) (v := ?_) (a' := ?_) #[true, true, true, true, true, true, true, false, false, false] rfl rfl (take_ofW HT_.out HW_.out (by kernel_rfl)) (fun _ _ _ h => h) (Or.inl ⟨by rfl, ?_⟩) hHeld ?_ ?_
   rotate_left
   ·rintro w' ⟨s0, s1⟩
    go_simp
    with_reducible rfl
   rotate_left
   ·simp only [Act.put, List.setIfInBounds_toArray, List.set_cons_zero, List.set_cons_succ, i64_w, i32_w]
    rfl
   refine pq HT_ 7 26 10 255 ?_
   refine pq HT_ 8 27 10 511 ?_
   refine one_ (i := 9) (N := none) #[true, true, true, true, true, true, true, true, true, true] rfl rfl (one_of HT_.out (by kernel_rfl)) (by decide) (fun K hK => ?_)
   have hs21 : w20.cell? ⟨gb117, 0, none⟩ = some (.int .i64 0) := zy BK117 0
   have hfs21 := blk_frozen BK117.out 0
   have hns21_0 := NB116_117.out
   have hms21_0 := NB117_116.out
   have hs22 : w20.cell? ⟨gb117, 1, none⟩ = some (.int .i64 0) := zy BK117 1
   have hfs22 := blk_frozen BK117.out 1
   have hns22_0 := NB116_117.out
   have hms22_0 := NB117_116.out
   refine skip_ (w1 := ?_) (by rfl) rfl ?_ ?_
   rotate_left
   ·go_simp
    rfl
   refine hK.out _ _ ⟨((cell_far (p := ⟨gb117, _, none⟩) NB116_117.out _).trans (((cell_far (p := ⟨gb117, _, none⟩) NB116_117.out _).trans (hHeld.1)))), ((cell_far (p := ⟨gb117, _, none⟩) NB116_117.out _).trans (((cell_far (p := ⟨gb117, _, none⟩) NB116_117.out _).trans (hHeld.2))))⟩ (fun hHeld => ?_)
   clear hK K
   refine done_ (done_of HT_.out (by kernel_rfl)) ?_
   try go_wp2
   refine bodyPost_ret (results_cell_row rfl _ _ gb117 101 #[.int .i64 (wrap64 (Int.tdiv a0_0 t119)), .int .i64 (wrap64 (Int.tdiv a0_1 t119))] (0, 0) _ rfl (by refine zm ?_; refine blk_put (cs := #[.int .i64 (wrap64 (Int.tdiv a0_0 t119)), .int .i64 0]) ?_ 1 _ rfl; refine zm ?_; refine blk_put (cs := #[.int .i64 0, .int .i64 0]) ?_ 0 _ rfl; refine zm ?_; exact BK117.out) Try.underlying101 rfl (by kernel_rfl)) rfl ?_
   exact ⟨ze, zh⟩
end Go.Proofs.Ytccjefoejjnccaa.C
