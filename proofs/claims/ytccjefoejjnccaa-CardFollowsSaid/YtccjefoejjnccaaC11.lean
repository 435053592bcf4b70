-- Written by a program of this session (wip/tools/myprint.py, over the kit's print).
import Derived.Test.YtccjefoejjnccaaC0
import Derived.Test.YtccjefoejjnccaaC6
import Derived.Test.YtccjefoejjnccaaC7
import Derived.Test.YtccjefoejjnccaaC8
import Derived.Test.YtccjefoejjnccaaC10
import Derived.Maps.RangeWalk
import Derived.Test.YtccjefoejjnccaaZ
namespace Go.Proofs.Ytccjefoejjnccaa.C
open Go.RowKit Go.Proofs.YtccjefoejjnccaaW.PrintWords Go.Proofs.YtccjefoejjnccaaW.PrintLast Go.Proofs.YtccjefoejjnccaaW.PrintMore
attribute [local go_sem] max2_int min2_int max_two min_two max_three min_three max_four min_four   -- for this text's walks alone
set_option linter.unusedVariables false
set_option linter.unusedSimpArgs false
def agonicref05_rise.f (l0 : List (S54)) (a1 : Int) : Option (Int) := (agonicref05_segment.f l0 a1).bind fun bt241 => (some (wrap64 ((wrap64 ((wrap64 (bt241.2.2.1 - bt241.1)) + bt241.2.2.2)) - bt241.2.1)))
set_option maxHeartbeats 8000000 in
set_option maxRecDepth 100000 in
theorem agonicref05_rise.calls (A0 : Option Addr) (c0 : Nat) (l0 : List (S54)) (a1 : Int) (r : Int) (w : World) (hr0 : Kd.C k54 w A0 l0.length l0) (hc0 : l0.length ≤ c0) (h : agonicref05_rise.f l0 a1 = some r) :
  Calls Try.prog 60 #[.slice A0 l0.length c0, .int .i64 a1] w fun e w' => e = .returned (.int .i64 r) ∧ Below w.heap.size w w' := by
 have hu54 := Try.underlying54
 have HR0 := Aside0.mk hr0
 have HC0 := Aside0.mk hc0
 clear hr0 hc0
 have HB := Aside0.mk (Below.refl w.heap.size w)
 have H : ((agonicref05_segment.f l0 a1).bind fun bt241 => (some (wrap64 ((wrap64 ((wrap64 (bt241.2.2.1 - bt241.1)) + bt241.2.2.2)) - bt241.2.1)))) = some r := h
 clear h
 replace H := zi H
 obtain ⟨⟨t241, t242, t243, t244⟩, A30, H⟩ := H
 try dsimp only at H
 have A3 := Aside0.mk A30
 clear A30
 obtain rfl := Option.some.inj H
 go_enter Try.func60, Try.ntmps60
 go_wp2_with (first | ((with_reducible refine gC 65 rfl ?_); refine gL 10 Try.func65 #[.slice A0 l0.length c0, .int .i64 a1] ?_; (with_reducible refine (agonicref05_segment.calls _ _ l0 a1 t241 t242 t243 t244 _ ?side1 ?side2 A3.out).mono ?_); (case side1 => exact zc HR0.out); (case side2 => exact HC0.out); rintro e w4 ⟨rfl, hb⟩; refine ⟨_, rfl, ?_⟩; replace HB := zd hb; (try clear hb)) | ((with_reducible refine gD 5 rfl ?_); refine zx 5 #[.int .i64 0, .int .i64 0] 54 ?_; intro gb245 hg w5 hbox hb; have BK245 := Aside0.mk (hbox); have GE245 := zG w hg; replace HB := zd hb; clear hb hbox hg) | ((with_reducible refine gD 6 rfl ?_); refine zx 6 #[.int .i64 0, .int .i64 0] 54 ?_; intro gb246 hg w6 hbox hb; have BK246 := Aside0.mk (hbox); have GE246 := zG w hg; replace HB := zd hb; have NB245_246 := zN BK245 hg; have NB246_245 := zM BK245 hg; replace BK245 := zk BK245 hb; clear hb hbox hg; have hnb7 := NB245_246.out; have hnc7 := NB246_245.out; have hcz8_0 : w6.cell? ⟨gb245, 0, none⟩ = some (.int .i64 0) := zy BK245 0; have hcz8_1 : w6.cell? ⟨gb245, 1, none⟩ = some (.int .i64 0) := zy BK245 1; have hfz8_0 := blk_frozen BK245.out 0; have hfz8_1 := blk_frozen BK245.out 1; have hcz9_0 : w6.cell? ⟨gb246, 0, none⟩ = some (.int .i64 0) := zy BK246 0; have hcz9_1 : w6.cell? ⟨gb246, 1, none⟩ = some (.int .i64 0) := zy BK246 1; have hfz9_0 := blk_frozen BK246.out 0; have hfz9_1 := blk_frozen BK246.out 1))
 go_ret
 exact ⟨ze, zh⟩
def agonicref05_Folds.l0 : Nat → List (S54) → List Int → Int → Option (List Int × Int)
 | 0, _, _, _ => none
 | k + 1, x0, x5, x6 => if x6 < (x0.length : Int) then ((agonicref05_rise.f x0 x6).bind fun t248 => (if t248 ≤ 0 then (if x5.length < 17592186044416 then (agonicref05_Folds.l0 k x0 (x5 ++ [x6]) (wrap64 (x6 + 1))) else (none)) else (agonicref05_Folds.l0 k x0 x5 (wrap64 (x6 + 1))))) else (some (x5, 0))
def agonicref05_Folds.f (k : Nat) (l0 : List (S54)) : Option (List Int × Int) := (agonicref05_Check.f k l0).bind fun t247 => (if t247 = 0 then (agonicref05_Folds.l0 k l0 ([] : List Int) 0) else (some (([] : List Int), t247)))
set_option maxHeartbeats 8000000 in
set_option maxRecDepth 100000 in
theorem agonicref05_Folds.calls (k : Nat) (A0 : Option Addr) (c0 : Nat) (l0 : List (S54)) (r1 : List Int) (r2 : Int) (w : World) (hr0 : Kd.C k54 w A0 l0.length l0) (hc0 : l0.length ≤ c0) (h : agonicref05_Folds.f k l0 = some (r1, r2)) :
  Calls Try.prog 19 #[.slice A0 l0.length c0] w fun e w' => ∃ v0_ : Value, e = .returned (.tuple #[v0_, .int .i64 r2]) ∧ Kd.R (Kd.int .i64) 3 w' w.heap.size (fun _ => True) v0_ r1 ∧ Below w.heap.size w w' := by
 have HR0 := Aside0.mk hr0
 have HC0 := Aside0.mk hc0
 clear hr0 hc0
 have HB := Aside0.mk (Below.refl w.heap.size w)
 have H : ((agonicref05_Check.f k l0).bind fun t247 => (if t247 = 0 then (agonicref05_Folds.l0 k l0 ([] : List Int) 0) else (some (([] : List Int), t247)))) = some (r1, r2) := h
 clear h
 replace H := zi H
 obtain ⟨t247, A20, H⟩ := H
 try dsimp only at H
 have A2 := Aside0.mk A20
 clear A20
 by_cases c3 : t247 = 0
 ·rw [if_pos c3] at H
  have c3b0 : (t247 == 0) = true := beq_iff_eq.mpr c3
  have c3b1 : (t247 != 0) = false := bne_eq_false_iff_eq.mpr c3
  clear c3
  have H' := Aside0.mk H
  clear H
  go_enter Try.func19, Try.ntmps19
  go_wp2_with (first | ((with_reducible refine gC 22 rfl ?_); refine gL 8 Try.func22 #[.slice A0 l0.length c0] ?_; (with_reducible refine (agonicref05_Check.calls k _ _ l0 t247 _ ?side1 ?side2 A2.out).mono ?_); (case side1 => exact zc HR0.out); (case side2 => exact HC0.out); rintro e w' ⟨rfl, ⟨nd, rfl⟩⟩; refine ⟨_, rfl, ?_⟩))
  go_loopg [5, 6] k (fun kq v5 v6 w' => ∃ (x5_1 : List Int) (x6_1 : Int), v6 = .int .i64 x6_1 ∧ Aside0 (agonicref05_Folds.l0 kq l0 x5_1 x6_1 = some (r1, r2)) ∧ Aside0 (kq ≤ k) ∧ Aside0 (Kd.R (Kd.int .i64) 3 w' w.heap.size (fun _ => True) v5 x5_1) ∧ Aside0 (Below w.heap.size w w'))
  case atStart => exact ⟨(([] : List Int)), (0), (by first | rfl | (simp; done) | (simp [*]; done)), H', ⟨Nat.le_refl _⟩, ⟨by first | exact Kd.R_nil _ _ _ _ _ | exact Kd.N_nil _ _ _ _ _ | exact Kd.V_nil _ _ _ _ _ | exact Kd.Q_nil _ _ _ _ _ | exact Kd.S_nil _ _ _ _ _⟩, ⟨zh⟩⟩
  case round =>
   clear H'
   try clear c1
   try clear c2
   try clear p2
   try clear c3
   try clear c3b0
   try clear c3b1
   obtain ⟨x5_1, x6_1, rfl, HA, HK1, HO_5, HB⟩ := hrel
   cases gk with
   | zero => exact absurd HA.out (by simp [agonicref05_Folds.l0])
   | succ k1 =>
    have H := HA.out
    clear HA
    simp only [agonicref05_Folds.l0] at H
    by_cases c4 : x6_1 < (l0.length : Int)
    ·rw [if_pos c4] at H
     have c4b0 : decide (x6_1 < (l0.length : Int)) = true := decide_eq_true c4
     clear c4
     replace H := zi H
     obtain ⟨t248, A50, H⟩ := H
     try dsimp only at H
     have A5 := Aside0.mk A50
     clear A50
     by_cases c6 : t248 ≤ 0
     ·rw [if_pos c6] at H
      have c6b0 : decide (t248 ≤ 0) = true := decide_eq_true c6
      clear c6
      by_cases c7 : x5_1.length < 17592186044416
      ·rw [if_pos c7] at H
       have LMc7 := Aside0.mk c7
       clear c7
       obtain ⟨y249, hy249⟩ : ∃ y_ : List Int, y_ = (x5_1 ++ [x6_1]) := ⟨_, rfl⟩
       replace H : (agonicref05_Folds.l0 k1 l0 y249 (wrap64 (x6_1 + 1))) = some (r1, r2) := by first | (rw [hy249]; with_reducible exact H) | (have H2_ := (Option.bind_some _ _).symm.trans H; rw [hy249]; with_reducible exact H2_) | (have H2_ := (Option.bind_some _ _).symm.trans H; with_reducible exact H2_) | with_reducible exact H | (rw [hy249]; exact H) | exact H
       have Ny249 := Aside0.mk hy249
       clear hy249
       have H' := Aside0.mk H
       clear H
       go_wp2_with (first | ((with_reducible refine gC 60 rfl ?_); refine gL 20 Try.func60 #[.slice A0 l0.length c0, .int .i64 x6_1] ?_; (with_reducible refine (agonicref05_rise.calls _ _ l0 x6_1 t248 _ ?side1 ?side2 A5.out).mono ?_); (case side1 => exact zc (Kd.C_below HR0.out HB.out)); (case side2 => exact HC0.out); rintro e w8 ⟨rfl, hb⟩; refine ⟨_, rfl, ?_⟩; replace HO_5 := zr HO_5 hb; replace HB := zd hb; (try clear hb)) | ((with_reducible refine gate_builtin (b := .append) (xs := #[.tmp 22, .tmp 24]) rfl ?_); at_builtin; refine Kd.R_append (Kd.int .i64) (w0 := w) w.heap.size rfl (.tmp 22) (.tmp 24) 34 3 (.int .i64 0) 8 rfl Try.underlying34 info3 rfl (by decide) (by omega) u5 x5_1 x6_1 [.int .i64 x6_1] (fun _ => True) (fun _ => False) rfl rfl ?aP (fun _ hk => hk.elim) ?aF ?aO ?aB ?aS ?aL ?_; (case aP => exact rfl); (case aB => exact zh); (case aF => exact (fun _ _ => trivial)); (case aO => exact (zo HO_5.out)); (case aS => exact (below_size zh)); (case aL => have := LMc7.out; omega); intro v250 w9 ho hb hg hat; rw [← Ny249.out] at ho; replace HB := Aside0.mk (hb); have HO251 := Aside0.mk (ho); clear HO_5; clear ho hb hg hat))
       go_roundg k1
       case measure => have := HK1.out; omega
       case rel => exact ⟨(y249), (wrap64 (x6_1 + 1)), (by first | rfl | (simp; done) | (simp [*]; done)), H', ⟨by have := HK1.out; omega⟩, ⟨by refine zl ?_; exact HO251.out⟩, ⟨zh⟩⟩
      ·rw [if_neg c7] at H
       exact absurd H (by simp)
     ·rw [if_neg c6] at H
      have c6b0 : decide (t248 ≤ 0) = false := decide_eq_false c6
      clear c6
      have H' := Aside0.mk H
      clear H
      go_wp2_with (first | ((with_reducible refine gC 60 rfl ?_); refine gL 20 Try.func60 #[.slice A0 l0.length c0, .int .i64 x6_1] ?_; (with_reducible refine (agonicref05_rise.calls _ _ l0 x6_1 t248 _ ?side1 ?side2 A5.out).mono ?_); (case side1 => exact zc (Kd.C_below HR0.out HB.out)); (case side2 => exact HC0.out); rintro e w10 ⟨rfl, hb⟩; refine ⟨_, rfl, ?_⟩; replace HO_5 := zr HO_5 hb; replace HB := zd hb; (try clear hb)))
      go_roundg k1
      case measure => have := HK1.out; omega
      case rel => exact ⟨(x5_1), (wrap64 (x6_1 + 1)), (by first | rfl | (simp; done) | (simp [*]; done)), H', ⟨by have := HK1.out; omega⟩, ⟨by refine zl ?_; exact HO_5.out⟩, ⟨zh⟩⟩
    ·rw [if_neg c4] at H
     have c4b0 : decide (x6_1 < (l0.length : Int)) = false := decide_eq_false c4
     clear c4
     simp only [Option.some.injEq, Prod.mk.injEq] at H
     obtain ⟨rfl, rfl⟩ := H
     go_wp2
     go_ret2
     exact ⟨_, ze, by refine zl ?_; exact HO_5.out, zh⟩
 ·rw [if_neg c3] at H
  have c3b0 : (t247 == 0) = false := beq_eq_false_iff_ne.mpr c3
  have c3b1 : (t247 != 0) = true := bne_iff_ne.mpr c3
  simp only [Option.some.injEq, Prod.mk.injEq] at H
  obtain ⟨rfl, rfl⟩ := H
  go_enter Try.func19, Try.ntmps19
  go_wp2_with (first | ((with_reducible refine gC 22 rfl ?_); refine gL 8 Try.func22 #[.slice A0 l0.length c0] ?_; (with_reducible refine (agonicref05_Check.calls k _ _ l0 t247 _ ?side1 ?side2 A2.out).mono ?_); (case side1 => exact zc HR0.out); (case side2 => exact HC0.out); rintro e w' ⟨rfl, ⟨nd, rfl⟩⟩; refine ⟨_, rfl, ?_⟩))
  go_ret2
  exact ⟨_, ze, by first | exact Kd.R_nil _ _ _ _ _ | exact Kd.N_nil _ _ _ _ _ | exact Kd.V_nil _ _ _ _ _ | exact Kd.Q_nil _ _ _ _ _ | exact Kd.S_nil _ _ _ _ _, zh⟩
mutual
def agonicref05_around.l0 : Nat → Int → Int → Option (Int × Int)
 | 0, _, _ => none
 | k + 1, x253000, x253001 => if x253000 < 0 then (agonicref05_around.l0 k (wrap64 (x253000 + (wrap64 (3600 * x253001)))) x253001) else (agonicref05_around.l1 k x253000 x253001)
def agonicref05_around.l1 : Nat → Int → Int → Option (Int × Int)
 | 0, _, _ => none
 | k + 1, x253000, x253001 => if x253000 ≥ (wrap64 (3600 * x253001)) then (agonicref05_around.l1 k (wrap64 (x253000 - (wrap64 (3600 * x253001)))) x253001) else (some (x253000, x253001))
end
def agonicref05_around.f (k : Nat) (a0_0 : Int) (a0_1 : Int) : Option (Int × Int) := agonicref05_around.l0 k a0_0 a0_1
set_option maxHeartbeats 8000000 in
set_option maxRecDepth 100000 in
theorem agonicref05_around.calls (k : Nat) (a0_0 : Int) (a0_1 : Int) (r1 : Int) (r2 : Int) (w : World) (h : agonicref05_around.f k a0_0 a0_1 = some (r1, r2)) :
  Calls Try.prog 68 #[.agg #[.int .i64 a0_0, .int .i64 a0_1]] w fun e w' => e = .returned (.agg #[.int .i64 r1, .int .i64 r2]) ∧ Below w.heap.size w w' := by
 have hu29 := Try.underlying29
 have HB := Aside0.mk (Below.refl w.heap.size w)
 have H : (agonicref05_around.l0 k a0_0 a0_1) = some (r1, r2) := h
 clear h
 have H' := Aside0.mk H
 clear H
 go_enter Try.func68, Try.ntmps68
 go_wp2_with (first | ((with_reducible refine gD 1 rfl ?_); refine zx 1 #[.int .i64 a0_0, .int .i64 a0_1] 29 ?_; intro gb252 hg w2 hbox hb; have BK252 := Aside0.mk (hbox); have GE252 := zG w hg; replace HB := zd hb; clear hb hbox hg) | ((with_reducible refine gD 2 rfl ?_); refine zx 2 #[.int .i64 0, .int .i64 0] 29 ?_; intro gb253 hg w3 hbox hb; have BK253 := Aside0.mk (hbox); have GE253 := zG w hg; replace HB := zd hb; have NB252_253 := zN BK252 hg; have NB253_252 := zM BK252 hg; replace BK252 := zk BK252 hb; clear hb hbox hg))
 try go_frame
 go_loopg [] k (fun kq w' => ∃ (x253000_1 : Int), Aside0 (agonicref05_around.l0 kq x253000_1 a0_1 = some (r1, r2)) ∧ Aside0 (kq ≤ k) ∧ Aside0 (w'.heap[gb252]? = some (.cells #[.int .i64 x253000_1, .int .i64 a0_1] 29 (0, 0))) ∧ Aside0 (w'.heap[gb253]? = some (.cells #[.int .i64 0, .int .i64 0] 29 (0, 0))) ∧ Aside0 (Below w.heap.size w w'))
 case atStart => exact ⟨(a0_0), H', ⟨Nat.le_refl _⟩, ⟨by refine zm ?_; exact BK252.out⟩, ⟨by refine zm ?_; exact BK253.out⟩, ⟨zh⟩⟩
 case round =>
  clear H'
  try clear p2
  obtain ⟨x253000_1, HA, HK1, BK252, BK253, HB⟩ := hrel
  cases gk with
  | zero => exact absurd HA.out (by simp [agonicref05_around.l0])
  | succ k1 =>
   have H := HA.out
   clear HA
   simp only [agonicref05_around.l0] at H
   by_cases c4 : x253000_1 < 0
   ·rw [if_pos c4] at H
    have c4b0 : decide (x253000_1 < 0) = true := decide_eq_true c4
    clear c4
    have H' := Aside0.mk H
    clear H
    have hnb5 := NB252_253.out
    have hnc5 := NB253_252.out
    have hcz6_0 : wr.cell? ⟨gb252, 0, none⟩ = some (.int .i64 x253000_1) := zy BK252 0
    have hcz6_1 : wr.cell? ⟨gb252, 1, none⟩ = some (.int .i64 a0_1) := zy BK252 1
    have hfz6_0 := blk_frozen BK252.out 0
    have hfz6_1 := blk_frozen BK252.out 1
    go_wp2
    go_roundg k1
    case measure => have := HK1.out; omega
    case rel => exact ⟨(wrap64 (x253000_1 + (wrap64 (3600 * a0_1)))), H', ⟨by have := HK1.out; omega⟩, ⟨by refine zm ?_; refine blk_put (cs := #[.int .i64 x253000_1, .int .i64 a0_1]) ?_ 0 _ rfl; refine zm ?_; exact BK252.out⟩, ⟨by refine zm ?_; refine blk_far ?_ NB253_252.out _; refine zm ?_; exact BK253.out⟩, ⟨zh⟩⟩
   ·rw [if_neg c4] at H
    have c4b0 : decide (x253000_1 < 0) = false := decide_eq_false c4
    clear c4
    have H' := Aside0.mk H
    clear H
    have hnb7 := NB252_253.out
    have hnc7 := NB253_252.out
    have hcz8_0 : wr.cell? ⟨gb252, 0, none⟩ = some (.int .i64 x253000_1) := zy BK252 0
    have hcz8_1 : wr.cell? ⟨gb252, 1, none⟩ = some (.int .i64 a0_1) := zy BK252 1
    have hfz8_0 := blk_frozen BK252.out 0
    have hfz8_1 := blk_frozen BK252.out 1
    go_wp2
    try go_frame
    go_loopg [] k1 (fun kq w' => ∃ (x253000_2 : Int), Aside0 (agonicref05_around.l1 kq x253000_2 a0_1 = some (r1, r2)) ∧ Aside0 (kq ≤ k1) ∧ Aside0 (w'.heap[gb252]? = some (.cells #[.int .i64 x253000_2, .int .i64 a0_1] 29 (0, 0))) ∧ Aside0 (w'.heap[gb253]? = some (.cells #[.int .i64 0, .int .i64 0] 29 (0, 0))) ∧ Aside0 (Below w.heap.size w w'))
    case atStart => exact ⟨(x253000_1), H', ⟨Nat.le_refl _⟩, ⟨by refine zm ?_; exact BK252.out⟩, ⟨by refine zm ?_; exact BK253.out⟩, ⟨zh⟩⟩
    case round =>
     clear H'
     try clear p2
     try clear c4
     try clear c4b0
     try clear c5
     try clear c6
     try clear p6
     try clear c7
     try clear hcz6_0
     try clear hcz6_1
     try clear hcz8_0
     try clear hcz8_1
     try clear hfz6_0
     try clear hfz6_1
     try clear hfz8_0
     try clear hfz8_1
     try clear p2
     obtain ⟨x253000_2, HA, HK2, BK252, BK253, HB⟩ := hrel
     cases gk with
     | zero => exact absurd HA.out (by simp [agonicref05_around.l1])
     | succ k2 =>
      have H := HA.out
      clear HA
      simp only [agonicref05_around.l1] at H
      by_cases c9 : x253000_2 ≥ (wrap64 (3600 * a0_1))
      ·rw [if_pos c9] at H
       have c9b0 : decide ((wrap64 (3600 * a0_1)) ≤ x253000_2) = true := decide_eq_true c9
       clear c9
       have H' := Aside0.mk H
       clear H
       have hnb10 := NB252_253.out
       have hnc10 := NB253_252.out
       have hcz11_0 : wr.cell? ⟨gb252, 0, none⟩ = some (.int .i64 x253000_2) := zy BK252 0
       have hcz11_1 : wr.cell? ⟨gb252, 1, none⟩ = some (.int .i64 a0_1) := zy BK252 1
       have hfz11_0 := blk_frozen BK252.out 0
       have hfz11_1 := blk_frozen BK252.out 1
       go_wp2
       go_roundg k2
       case measure => have := HK1.out; have := HK2.out; omega
       case rel => exact ⟨(wrap64 (x253000_2 - (wrap64 (3600 * a0_1)))), H', ⟨by have := HK1.out; have := HK2.out; omega⟩, ⟨by refine zm ?_; refine blk_put (cs := #[.int .i64 x253000_2, .int .i64 a0_1]) ?_ 0 _ rfl; refine zm ?_; exact BK252.out⟩, ⟨by refine zm ?_; refine blk_far ?_ NB253_252.out _; refine zm ?_; exact BK253.out⟩, ⟨zh⟩⟩
      ·rw [if_neg c9] at H
       have c9b0 : decide ((wrap64 (3600 * a0_1)) ≤ x253000_2) = false := decide_eq_false c9
       clear c9
       simp only [Option.some.injEq, Prod.mk.injEq] at H
       obtain ⟨rfl, rfl⟩ := H
       have hnb12 := NB252_253.out
       have hnc12 := NB253_252.out
       have hcz13_0 : wr.cell? ⟨gb252, 0, none⟩ = some (.int .i64 x253000_2) := zy BK252 0
       have hcz13_1 : wr.cell? ⟨gb252, 1, none⟩ = some (.int .i64 a0_1) := zy BK252 1
       have hfz13_0 := blk_frozen BK252.out 0
       have hfz13_1 := blk_frozen BK252.out 1
       have hcz14_0 : wr.cell? ⟨gb253, 0, none⟩ = some (.int .i64 0) := zy BK253 0
       have hcz14_1 : wr.cell? ⟨gb253, 1, none⟩ = some (.int .i64 0) := zy BK253 1
       have hfz14_0 := blk_frozen BK253.out 0
       have hfz14_1 := blk_frozen BK253.out 1
       go_wp2
       refine bodyPost_ret (results_cell_row rfl _ _ gb253 29 #[.int .i64 x253000_2, .int .i64 a0_1] (0, 0) _ rfl (by refine zm ?_; refine blk_put (cs := #[.int .i64 x253000_2, .int .i64 0]) ?_ 1 _ rfl; refine zm ?_; refine blk_put (cs := #[.int .i64 0, .int .i64 0]) ?_ 0 _ rfl; refine zm ?_; exact BK253.out) Try.underlying29 rfl (by kernel_rfl)) rfl ?_
       exact ⟨ze, zh⟩
end Go.Proofs.Ytccjefoejjnccaa.C
