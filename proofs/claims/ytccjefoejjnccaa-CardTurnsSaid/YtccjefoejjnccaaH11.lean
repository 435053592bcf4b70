-- Written by a program of this session (wip/tools/myprint.py, over the kit's print).
import Derived.Test.YtccjefoejjnccaaC21
import Derived.Test.YtccjefoejjnccaaH9
import Derived.Test.YtccjefoejjnccaaZ
namespace Go.Proofs.Ytccjefoejjnccaa.C
open Go.Proofs.Ytccjefoejjnccaa.H Go.Proofs.YtccjefoejjnccaaH Go.RowKit Go.Proofs.YtccjefoejjnccaaW.PrintWords Go.Proofs.YtccjefoejjnccaaW.PrintLast Go.Proofs.YtccjefoejjnccaaW.PrintMore
attribute [local go_sem] Oper.semAt_some max2_int min2_int max_two min_two max_three min_three max_four min_four   -- for this text's walks alone
set_option linter.unusedVariables false
set_option linter.unusedSimpArgs false
theorem below_fin {w w1 w' : World} (h : Below w.heap.size w w1) (h2 : Below w1.heap.size w1 w') : Below w.heap.size w w' := h.trans (h2.mono h.size)
theorem box2_farW {W : World} {b c : Nat} {t : TypeId} {u u' v : Value} {o : Nat} (hne : b ≠ c) (h : Box2 W c t u u') : Box2 (W.setCell ⟨b, o, none⟩ v) c t u u' := (Below.heap_setCell W ⟨b, o, none⟩ v c (fun e => hne e.symm)).trans h
theorem cell_keep {w w' : World} {n : Nat} {p : Addr} {v : Value} (h : Below n w w') (hp : w.cell? p = some v) (hn : p.block < n) : w'.cell? p = some v := (h.cell hn).trans hp
def card_Within_1.f (k : Nat) (l0 : List (S55)) (a1 : Int) : Option (Int × Int) := (card_Card_allowance.f k l0 a1).bind fun bt137 => (some (bt137.1, bt137.2))
set_option maxHeartbeats 8000000 in
set_option maxRecDepth 100000 in
theorem card_Within_1.calls (k : Nat) (A0 : Option Addr) (c0 : Nat) (l0 : List (S55)) (a1 : Int) (r1 : Int) (r2 : Int) (w : World) (p : Nat) (hp : w.cell? ⟨p, 0, none⟩ = some (.int .i64 a1)) (hr0 : Kd.C k55 w A0 l0.length l0) (hc0 : l0.length ≤ c0) (h : card_Within_1.f k l0 a1 = some (r1, r2)) :
  Calls Try.prog 82 #[.slice A0 l0.length c0, .pointer (some ⟨p, 0, none⟩)] w fun e w' => e = .returned (.agg #[.int .i64 r1, .int .i64 r2]) ∧ Below w.heap.size w w' := by
 have hu101 := Try.underlying101
 have HR0 := Aside0.mk hr0
 have HC0 := Aside0.mk hc0
 clear hr0 hc0
 have HP := Aside0.mk hp
 clear hp
 have HB := Aside0.mk (Below.refl w.heap.size w)
 have H : ((card_Card_allowance.f k l0 a1).bind fun bt137 => (some (bt137.1, bt137.2))) = some (r1, r2) := h
 clear h
 replace H := zi H
 obtain ⟨⟨t137, t138⟩, A30, H⟩ := H
 try dsimp only at H
 have A3 := Aside0.mk A30
 clear A30
 simp only [Option.some.injEq, Prod.mk.injEq] at H
 obtain ⟨rfl, rfl⟩ := H
 go_enter Try.func82, Try.ntmps82
 go_wp2_with (first | ((with_reducible refine gD 3 rfl ?_); refine zx 3 #[.int .i64 0, .int .i64 0] 101 ?_; intro gb136 hg w4 hbox hb; have BK136 := Aside0.mk (hbox); have GE136 := zG w hg; replace HB := zd hb; clear hb hbox hg; have hpc := cell_keep HB.out HP.out (World.block_lt_of_cell? _ _ HP.out)) | ((with_reducible refine gC 70 rfl ?_); refine gL 6 Try.func70 #[.slice A0 l0.length c0, .int .i64 a1] ?_; (with_reducible refine (card_Card_allowance.calls k _ _ l0 a1 t137 t138 _ ?side1 ?side2 A3.out).mono ?_); (case side1 => exact zc (Kd.C_below HR0.out HB.out)); (case side2 => exact HC0.out); rintro e w5 ⟨rfl, hb⟩; refine ⟨_, rfl, ?_⟩; replace BK136 := zk BK136 hb; replace HB := zd hb; (try clear hb); have hcz6_0 : w5.cell? ⟨gb136, 0, none⟩ = some (.int .i64 0) := zy BK136 0; have hcz6_1 : w5.cell? ⟨gb136, 1, none⟩ = some (.int .i64 0) := zy BK136 1; have hfz6_0 := blk_frozen BK136.out 0; have hfz6_1 := blk_frozen BK136.out 1))
 refine bodyPost_ret (results_cell_row rfl _ _ gb136 101 #[.int .i64 t137, .int .i64 t138] (0, 0) _ rfl (by refine zm ?_; refine blk_put (cs := #[.int .i64 t137, .int .i64 0]) ?_ 1 _ rfl; refine zm ?_; refine blk_put (cs := #[.int .i64 0, .int .i64 0]) ?_ 0 _ rfl; refine zm ?_; exact BK136.out) Try.underlying101 rfl (by kernel_rfl)) rfl ?_
 exact ⟨ze, zh⟩
def card_ratio_78.f (k : Nat) (l0 : List (S55)) (l1 : List (S55)) (a2 : Int) : Option (Int × Int × Int × Int) := (card_Within_1.f k l0 a2).bind fun bt141 => ((card_Within_1.f k l1 a2).bind fun bt143 => (some (bt141.1, bt141.2, bt143.1, bt143.2)))
set_option maxHeartbeats 8000000 in
set_option maxRecDepth 100000 in
theorem card_ratio_78.calls (k : Nat) (A0 : Option Addr) (c0 : Nat) (l0 : List (S55)) (A1 : Option Addr) (c1 : Nat) (l1 : List (S55)) (a2 : Int) (r1 : Int) (r2 : Int) (r3 : Int) (r4 : Int) (w : World) (p : Nat) (hp : w.cell? ⟨p, 0, none⟩ = some (.int .i64 a2)) (hr0 : Kd.C k55 w A0 l0.length l0) (hc0 : l0.length ≤ c0) (hr1 : Kd.C k55 w A1 l1.length l1) (hc1 : l1.length ≤ c1) (h : card_ratio_78.f k l0 l1 a2 = some (r1, r2, r3, r4)) :
  Calls Try.prog 78 #[.slice A0 l0.length c0, .slice A1 l1.length c1, .func (.func 82) #[] #[.pointer (some ⟨p, 0, none⟩)]] w fun e w' => e = .returned (.tuple #[.agg #[.int .i64 r1, .int .i64 r2], .agg #[.int .i64 r3, .int .i64 r4]]) ∧ Below w.heap.size w w' := by
 have hu101 := Try.underlying101
 have HR0 := Aside0.mk hr0
 have HC0 := Aside0.mk hc0
 clear hr0 hc0
 have HP := Aside0.mk hp
 clear hp
 have HR1 := Aside0.mk hr1
 have HC1 := Aside0.mk hc1
 clear hr1 hc1
 have HB := Aside0.mk (Below.refl w.heap.size w)
 have H : ((card_Within_1.f k l0 a2).bind fun bt141 => ((card_Within_1.f k l1 a2).bind fun bt143 => (some (bt141.1, bt141.2, bt143.1, bt143.2)))) = some (r1, r2, r3, r4) := h
 clear h
 replace H := zi H
 obtain ⟨⟨t141, t142⟩, A40, H⟩ := H
 try dsimp only at H
 have A4 := Aside0.mk A40
 clear A40
 replace H := zi H
 obtain ⟨⟨t143, t144⟩, A50, H⟩ := H
 try dsimp only at H
 have A5 := Aside0.mk A50
 clear A50
 simp only [Option.some.injEq, Prod.mk.injEq] at H
 obtain ⟨rfl, rfl, rfl, rfl⟩ := H
 go_enter Try.func78, Try.ntmps78
 go_wp2_with (first | ((with_reducible refine gD 6 rfl ?_); refine zx 6 #[.int .i64 0, .int .i64 0] 101 ?_; intro gb139 hg w6 hbox hb; have BK139 := Aside0.mk (hbox); have GE139 := zG w hg; replace HB := zd hb; clear hb hbox hg) | ((with_reducible refine gD 7 rfl ?_); refine zx 7 #[.int .i64 0, .int .i64 0] 101 ?_; intro gb140 hg w7 hbox hb; have BK140 := Aside0.mk (hbox); have GE140 := zG w hg; replace HB := zd hb; have NB139_140 := zN BK139 hg; have NB140_139 := zM BK139 hg; replace BK139 := zk BK139 hb; clear hb hbox hg) | ((with_reducible refine (card_Within_1.calls k _ _ l0 a2 t141 t142 _ p (cell_keep HB.out HP.out (World.block_lt_of_cell? _ _ HP.out)) ?side1 ?side2 A4.out).mono ?_); (case side1 => exact zc (Kd.C_below HR0.out HB.out)); (case side2 => exact HC0.out); rintro e w8 ⟨rfl, hb⟩; replace BK139 := zk BK139 hb; replace BK140 := zk BK140 hb; replace HB := zd hb; (try clear hb)) | ((with_reducible refine (card_Within_1.calls k _ _ l1 a2 t143 t144 _ p (cell_keep HB.out HP.out (World.block_lt_of_cell? _ _ HP.out)) ?side1 ?side2 A5.out).mono ?_); (case side1 => exact zc (Kd.C_below HR1.out HB.out)); (case side2 => exact HC1.out); rintro e w9 ⟨rfl, hb⟩; replace BK139 := zk BK139 hb; replace BK140 := zk BK140 hb; replace HB := zd hb; (try clear hb); have hnb10 := NB139_140.out; have hnc10 := NB140_139.out; have hcz11_0 : w9.cell? ⟨gb139, 0, none⟩ = some (.int .i64 0) := zy BK139 0; have hcz11_1 : w9.cell? ⟨gb139, 1, none⟩ = some (.int .i64 0) := zy BK139 1; have hfz11_0 := blk_frozen BK139.out 0; have hfz11_1 := blk_frozen BK139.out 1; have hcz12_0 : w9.cell? ⟨gb140, 0, none⟩ = some (.int .i64 0) := zy BK140 0; have hcz12_1 : w9.cell? ⟨gb140, 1, none⟩ = some (.int .i64 0) := zy BK140 1; have hfz12_0 := blk_frozen BK140.out 0; have hfz12_1 := blk_frozen BK140.out 1))
 refine bodyPost_ret (results_cc rfl _ _ gb139 gb140 101 101 #[.int .i64 t141, .int .i64 t142] #[.int .i64 t143, .int .i64 t144] (0, 0) (0, 0) _ _ rfl (by refine zm ?_; refine blk_far ?_ NB139_140.out _; refine zm ?_; refine blk_far ?_ NB139_140.out _; refine zm ?_; refine blk_put (cs := #[.int .i64 t141, .int .i64 0]) ?_ 1 _ rfl; refine zm ?_; refine blk_put (cs := #[.int .i64 0, .int .i64 0]) ?_ 0 _ rfl; refine zm ?_; exact BK139.out) Try.underlying101 rfl (by kernel_rfl) rfl (by refine zm ?_; refine blk_put (cs := #[.int .i64 t143, .int .i64 0]) ?_ 1 _ rfl; refine zm ?_; refine blk_put (cs := #[.int .i64 0, .int .i64 0]) ?_ 0 _ rfl; refine zm ?_; refine blk_far ?_ NB140_139.out _; refine zm ?_; refine blk_far ?_ NB140_139.out _; refine zm ?_; exact BK140.out) Try.underlying101 rfl (by kernel_rfl)) rfl ?_
 exact ⟨ze, zh⟩
def withinT7 : Bool × List (List Nat × List Nat) := (true, [([], []), ([], []), ([0, 0], [0]), ([1, 2, 0, 1, 2], [1]), ([3, 0, 1, 2, 3], [])])
def withinT7B : List Nat := [0, 0, 1, 7, 15]
def withinT5 : Bool × List (List Nat × List Nat) := (true, [([], []), ([], []), ([0, 0], [0]), ([1, 2, 0, 1, 2], [1]), ([3, 0, 1, 2, 3], [])])
def withinT5B : List Nat := [0, 0, 1, 7, 15]
def withinT3 : Bool × List (List Nat × List Nat) := (true, [([], []), ([], []), ([], []), ([0, 0], [0]), ([1, 3, 0, 1, 3], [1]), ([2, 4, 0, 1, 2, 3, 4], [2])])
def withinT3B : List Nat := [0, 0, 0, 1, 11, 31]
def card_Within.f (k : Nat) (l0 : List (S92)) (a1 : Int) : Option (Int × Int × Int × Int × Int) := (card_Known_check.f k l0).bind fun t147 => (if t147 = 0 then ((card_heading.f a1).bind fun t148 => (if t148 = true then ((card_Known_folds.f k l0).bind fun t149 => (if t149 = true then (some (0, 0, 0, 0, 21)) else ((card_Known_eachLo.f k l0).bind fun t150 => ((card_Known_eachHi.f k l0).bind fun t153 => ((card_ratio_78.f k t150 t153 a1).bind fun bt156 => ((card_ratio_out.f bt156.1 bt156.2.1).bind fun bt162 => ((card_ratio_out.f bt156.2.2.1 bt156.2.2.2).bind fun bt164 => (some (bt162.1, bt162.2, bt164.1, bt164.2, 0))))))))) else (some (0, 0, 0, 0, 1)))) else (some (0, 0, 0, 0, t147)))
set_option maxHeartbeats 8000000 in
set_option maxRecDepth 100000 in
theorem card_Within.calls (k : Nat) (A0 : Option Addr) (c0 : Nat) (l0 : List (S92)) (a1 : Int) (r1 : Int) (r2 : Int) (r3 : Int) (r4 : Int) (r5 : Int) (w : World) (hr0 : Kd.C k92 w A0 l0.length l0) (hc0 : l0.length ≤ c0) (h : card_Within.f k l0 a1 = some (r1, r2, r3, r4, r5)) :
  Calls Try.prog 33 #[.slice A0 l0.length c0, .int .i64 a1] w fun e w' => e = .returned (.tuple #[.agg #[.int .i64 r1, .int .i64 r2], .agg #[.int .i64 r3, .int .i64 r4], .int .i64 r5]) ∧ Below w.heap.size w w' := by
 have hu29 := Try.underlying29
 have hu101 := Try.underlying101
 have HR0 := Aside0.mk hr0
 have HC0 := Aside0.mk hc0
 clear hr0 hc0
 have HB := Aside0.mk (Below.refl w.heap.size w)
 have H : ((card_Known_check.f k l0).bind fun t147 => (if t147 = 0 then ((card_heading.f a1).bind fun t148 => (if t148 = true then ((card_Known_folds.f k l0).bind fun t149 => (if t149 = true then (some (0, 0, 0, 0, 21)) else ((card_Known_eachLo.f k l0).bind fun t150 => ((card_Known_eachHi.f k l0).bind fun t153 => ((card_ratio_78.f k t150 t153 a1).bind fun bt156 => ((card_ratio_out.f bt156.1 bt156.2.1).bind fun bt162 => ((card_ratio_out.f bt156.2.2.1 bt156.2.2.2).bind fun bt164 => (some (bt162.1, bt162.2, bt164.1, bt164.2, 0))))))))) else (some (0, 0, 0, 0, 1)))) else (some (0, 0, 0, 0, t147)))) = some (r1, r2, r3, r4, r5) := h
 clear h
 replace H := zi H
 obtain ⟨t147, A30, H⟩ := H
 try dsimp only at H
 have A3 := Aside0.mk A30
 clear A30
 by_cases c4 : t147 = 0
 ·rw [if_pos c4] at H
  have c4b0 : (t147 == 0) = true := beq_iff_eq.mpr c4
  have c4b1 : (t147 != 0) = false := bne_eq_false_iff_eq.mpr c4
  clear c4
  replace H := zi H
  obtain ⟨t148, A50, H⟩ := H
  try dsimp only at H
  have A5 := Aside0.mk A50
  clear A50
  by_cases c6 : t148 = true
  ·subst c6
   rw [if_pos rfl] at H
   replace H := zi H
   obtain ⟨t149, A70, H⟩ := H
   try dsimp only at H
   have A7 := Aside0.mk A70
   clear A70
   by_cases c8 : t149 = true
   ·subst c8
    rw [if_pos rfl] at H
    simp only [Option.some.injEq, Prod.mk.injEq] at H
    obtain ⟨rfl, rfl, rfl, rfl, rfl⟩ := H
    go_enter Try.func33, Try.ntmps33
    go_wp2_with (first | ((with_reducible refine gD 3 rfl ?_); refine zx 3 #[.int .i64 a1] 3 ?_; intro gbm hg w1 hbox hb; have HBW := Aside0.mk (below_step HB.out hb); have HM := Aside0.mk (show w1.cell? ⟨gbm, 0, none⟩ = some (.int .i64 a1) from (blk_cell hbox 0).trans rfl); have HRn := Aside0.mk (Kd.C_below HR0.out hb); clear HR0; have HR0 := HRn; clear HRn; clear HB; have HB := Aside0.mk (Below.refl w1.heap.size w1); clear hb hbox hg) | ((with_reducible refine gD 4 rfl ?_); refine zx 4 #[.int .i64 0, .int .i64 0] 29 ?_; intro gb145 hg w9 hbox hb; have BK145 := Aside0.mk (hbox); have GE145 := zG w1 hg; replace HB := zd hb; clear hb hbox hg) | ((with_reducible refine gD 5 rfl ?_); refine zx 5 #[.int .i64 0, .int .i64 0] 29 ?_; intro gb146 hg w10 hbox hb; have BK146 := Aside0.mk (hbox); have GE146 := zG w1 hg; replace HB := zd hb; have NB145_146 := zN BK145 hg; have NB146_145 := zM BK145 hg; replace BK145 := zk BK145 hb; clear hb hbox hg) | ((with_reducible refine gC 62 rfl ?_); refine gL 10 Try.func62 #[.slice A0 l0.length c0] ?_; (with_reducible refine (card_Known_check.calls k _ _ l0 t147 _ ?side1 ?side2 A3.out).mono ?_); (case side1 => exact zc (Kd.C_below HR0.out HB.out)); (case side2 => exact HC0.out); rintro e w11 ⟨rfl, hb⟩; refine ⟨_, rfl, ?_⟩; replace BK145 := zk BK145 hb; replace BK146 := zk BK146 hb; replace HB := zd hb; (try clear hb); have hmc := cell_keep HB.out HM.out (World.block_lt_of_cell? _ _ HM.out)) | ((with_reducible refine gC 52 rfl ?_); refine gL 19 Try.func52 #[.int .i64 a1] ?_; (with_reducible refine (card_heading.calls a1 true _ A5.out).mono ?_); rintro e w' ⟨rfl, ⟨nd, rfl⟩⟩; refine ⟨_, rfl, ?_⟩) | ((with_reducible refine gC 77 rfl ?_); refine gL 25 Try.func77 #[.slice A0 l0.length c0] ?_; (with_reducible refine (card_Known_folds.calls k _ _ l0 true _ ?side1 ?side2 A7.out).mono ?_); (case side1 => exact zc (Kd.C_below HR0.out zh)); (case side2 => exact HC0.out); rintro e w12 ⟨rfl, hb⟩; refine ⟨_, rfl, ?_⟩; replace BK145 := zk BK145 hb; replace BK146 := zk BK146 hb; replace HB := zd hb; (try clear hb)))
    have H145 := BK145
    have H146 := BK146
    refine start_ (n := 5) (S := fun w' => True) (ds := []) #[false, false, false, false, false] (by kernel_rfl) rfl rfl trivial (fun hHeld => ?_)
    refine inv_at (T := withinT7) (B := withinT7B) [0, 1, 2, 3, 4] (fun a0_ b a w' => a = putSel a0_ b [(0, 26, .agg #[.int .i64 0, .int .i64 0]), (1, 27, .agg #[.int .i64 0, .int .i64 0]), (4, 6, .int .i64 21)] ∧ (Below w1.heap.size w1 w') ∧ (Box2 w' gb145 29 (.int .i64 0) (.int .i64 0)) ∧ (Box2 w' gb146 29 (.int .i64 0) (.int .i64 0))) (by kernel_rfl) (by kernel_rfl) (by kernel_rfl) (by kernel_rfl) ?_ ?_ ?_
    ·exact ⟨by simp only [putSel, Bool.false_eq_true, if_false], zh, (by unfold Box2; refine zm ?_; exact BK145.out), (by unfold Box2; refine zm ?_; exact BK146.out)⟩
    ·skip
     clear H145 H146 HB
     refine steps_cons ?_ ?_
     ·rintro b a w' ⟨ha, Q_HB, Q_H145, Q_H146⟩ hb_ hon hoff
      refine ⟨_, rfl, fun K hK => ?_⟩
      have e4 : a.tmps[4]? = some (.pointer (some ⟨gb145, 0, none⟩)) := by rw [ha]; exact (putSel_off rfl).trans rfl
      replace ha := Aside0.mk ha
      have HB := Aside0.mk Q_HB
      have H145 := Aside0.mk Q_H145
      have H146 := Aside0.mk Q_H146
      have hc0 := H145.out.cell0
      have hc1 := H145.out.cell1
      refine value_ (w1 := w') (v := .agg #[.int .i64 0, .int .i64 0]) (by rfl) rfl ?_ ?_
      ·go_simp
       (try simp only [i64_w])
       try rfl
      refine hK.out _ _ ⟨(by rw [ha.out]; exact putSel_upk 0 hb_ rfl rfl rfl), Q_HB, Q_H145, Q_H146⟩
     refine steps_cons ?_ ?_
     ·rintro b a w' ⟨ha, Q_HB, Q_H145, Q_H146⟩ hb_ hon hoff
      refine ⟨_, rfl, fun K hK => ?_⟩
      have e5 : a.tmps[5]? = some (.pointer (some ⟨gb146, 0, none⟩)) := by rw [ha]; exact (putSel_off rfl).trans rfl
      replace ha := Aside0.mk ha
      have HB := Aside0.mk Q_HB
      have H145 := Aside0.mk Q_H145
      have H146 := Aside0.mk Q_H146
      have hc0 := H146.out.cell0
      have hc1 := H146.out.cell1
      refine value_ (w1 := w') (v := .agg #[.int .i64 0, .int .i64 0]) (by rfl) rfl ?_ ?_
      ·go_simp
       (try simp only [i64_w])
       try rfl
      refine hK.out _ _ ⟨(by rw [ha.out]; exact putSel_upk 1 hb_ rfl rfl rfl), Q_HB, Q_H145, Q_H146⟩
     refine steps_cons ?_ ?_
     ·rintro b a w' ⟨ha, Q_HB, Q_H145, Q_H146⟩ hb_ hon hoff
      refine ⟨_, rfl, fun K hK => ?_⟩
      have e4 : a.tmps[4]? = some (.pointer (some ⟨gb145, 0, none⟩)) := by rw [ha]; exact (putSel_off rfl).trans rfl
      have e26 : a.tmps[26]? = some (.agg #[.int .i64 0, .int .i64 0]) := by rw [ha]; exact putSel_on (e := (0, 26, .agg #[.int .i64 0, .int .i64 0])) 0 rfl rfl (hon 0 (by kernel_rfl)) rfl
      replace ha := Aside0.mk ha
      have HB := Aside0.mk Q_HB
      have H145 := Aside0.mk Q_H145
      have H146 := Aside0.mk Q_H146
      have hc0 := H145.out.cell0
      have hc1 := H145.out.cell1
      have hf0 := H145.out.frozen0
      have hf1 := H145.out.frozen1
      refine skip_ (w1 := ?_) (by rfl) rfl ?_ ?_
      rotate_left
      ·go_simp
       rfl
      refine hK.out _ _ ⟨(by rw [ha.out]; exact putSel_none (v := undef) rfl), below_set (below_set HB.out GE145.out) GE145.out, H145.out.set2 _ _, box2_farW NB145_146.out (box2_farW NB145_146.out H146.out)⟩
     refine steps_cons ?_ ?_
     ·rintro b a w' ⟨ha, Q_HB, Q_H145, Q_H146⟩ hb_ hon hoff
      refine ⟨_, rfl, fun K hK => ?_⟩
      have e5 : a.tmps[5]? = some (.pointer (some ⟨gb146, 0, none⟩)) := by rw [ha]; exact (putSel_off rfl).trans rfl
      have e27 : a.tmps[27]? = some (.agg #[.int .i64 0, .int .i64 0]) := by rw [ha]; exact putSel_on (e := (1, 27, .agg #[.int .i64 0, .int .i64 0])) 1 rfl rfl (hon 1 (by kernel_rfl)) rfl
      replace ha := Aside0.mk ha
      have HB := Aside0.mk Q_HB
      have H145 := Aside0.mk Q_H145
      have H146 := Aside0.mk Q_H146
      have hc0 := H146.out.cell0
      have hc1 := H146.out.cell1
      have hf0 := H146.out.frozen0
      have hf1 := H146.out.frozen1
      refine skip_ (w1 := ?_) (by rfl) rfl ?_ ?_
      rotate_left
      ·go_simp
       rfl
      refine hK.out _ _ ⟨(by rw [ha.out]; exact putSel_none (v := undef) rfl), below_set (below_set HB.out GE146.out) GE146.out, box2_farW NB146_145.out (box2_farW NB146_145.out H145.out), H146.out.set2 _ _⟩
     refine steps_cons ?_ ?_
     ·rintro b a w' ⟨ha, Q_HB, Q_H145, Q_H146⟩ hb_ hon hoff
      refine ⟨_, rfl, fun K hK => ?_⟩
      replace ha := Aside0.mk ha
      have HB := Aside0.mk Q_HB
      have H145 := Aside0.mk Q_H145
      have H146 := Aside0.mk Q_H146
      refine value_ (w1 := w') (v := .int .i64 21) (by rfl) rfl ?_ ?_
      ·go_simp
       (try simp only [i64_w])
       try rfl
      refine hK.out _ _ ⟨(by rw [ha.out]; exact putSel_upk 2 hb_ rfl rfl rfl), Q_HB, Q_H145, Q_H146⟩
     exact steps_nil
    ·rintro b a w' hall ⟨ha, Q_HB, Q_H145, Q_H146⟩
     clear H145 H146 HB
     have hb0_ := hall 0 (by kernel_rfl)
     have hb1_ := hall 1 (by kernel_rfl)
     have hb2_ := hall 2 (by kernel_rfl)
     have hb3_ := hall 3 (by kernel_rfl)
     have hb4_ := hall 4 (by kernel_rfl)
     subst ha
     simp only [putSel, hb0_, hb1_, hb2_, hb3_, hb4_, if_true, Act.put, List.setIfInBounds_toArray, List.set_cons_zero, List.set_cons_succ]
     have HB := Aside0.mk Q_HB
     clear Q_HB
     have H145 := Aside0.mk Q_H145
     clear Q_H145
     have H146 := Aside0.mk Q_H146
     clear Q_H146
     clear hall hb0_ hb1_ hb2_ hb3_ hb4_
     have BK145 := H145
     have BK146 := H146
     go_wp2
     refine bodyPost_ret (results_list (rs := [.cell 4 29, .cell 5 29, .tmp 6]) rfl (by simp) (.cell gb145 29 #[.int .i64 0, .int .i64 0] (0, 0) _ rfl (zb BK145) Try.underlying29 rfl (by kernel_rfl) (.cell gb146 29 #[.int .i64 0, .int .i64 0] (0, 0) _ rfl (zb BK146) Try.underlying29 rfl (by kernel_rfl) (.tmp .nil)))) rfl ?_
     exact ⟨ze, below_fin HBW.out zh⟩
   ·replace c8 := Bool.eq_false_iff.mpr c8
    subst c8
    rw [if_neg (show ¬ (false = true) by decide)] at H
    replace H := zi H
    obtain ⟨t150, A130, H⟩ := H
    try dsimp only at H
    have A13 := Aside0.mk A130
    clear A130
    replace H := zi H
    obtain ⟨t153, A140, H⟩ := H
    try dsimp only at H
    have A14 := Aside0.mk A140
    clear A140
    replace H := zi H
    obtain ⟨⟨t156, t157, t158, t159⟩, A150, H⟩ := H
    try dsimp only at H
    have A15 := Aside0.mk A150
    clear A150
    replace H := zi H
    obtain ⟨⟨t162, t163⟩, A160, H⟩ := H
    try dsimp only at H
    have A16 := Aside0.mk A160
    clear A160
    replace H := zi H
    obtain ⟨⟨t164, t165⟩, A170, H⟩ := H
    try dsimp only at H
    have A17 := Aside0.mk A170
    clear A170
    simp only [Option.some.injEq, Prod.mk.injEq] at H
    obtain ⟨rfl, rfl, rfl, rfl, rfl⟩ := H
    go_enter Try.func33, Try.ntmps33
    try go_wp2_with (first | ((with_reducible refine gD 3 rfl ?_); refine zx 3 #[.int .i64 a1] 3 ?_; intro gbm hg w1 hbox hb; have HBW := Aside0.mk (below_step HB.out hb); have HM := Aside0.mk (show w1.cell? ⟨gbm, 0, none⟩ = some (.int .i64 a1) from (blk_cell hbox 0).trans rfl); have HRn := Aside0.mk (Kd.C_below HR0.out hb); clear HR0; have HR0 := HRn; clear HRn; clear HB; have HB := Aside0.mk (Below.refl w1.heap.size w1); clear hb hbox hg) | ((with_reducible refine gD 4 rfl ?_); refine zx 4 #[.int .i64 0, .int .i64 0] 29 ?_; intro gb145 hg w18 hbox hb; have BK145 := Aside0.mk (hbox); have GE145 := zG w1 hg; replace HB := zd hb; clear hb hbox hg) | ((with_reducible refine gD 5 rfl ?_); refine zx 5 #[.int .i64 0, .int .i64 0] 29 ?_; intro gb146 hg w19 hbox hb; have BK146 := Aside0.mk (hbox); have GE146 := zG w1 hg; replace HB := zd hb; have NB145_146 := zN BK145 hg; have NB146_145 := zM BK145 hg; replace BK145 := zk BK145 hb; clear hb hbox hg) | ((with_reducible refine gC 62 rfl ?_); refine gL 10 Try.func62 #[.slice A0 l0.length c0] ?_; (with_reducible refine (card_Known_check.calls k _ _ l0 t147 _ ?side1 ?side2 A3.out).mono ?_); (case side1 => exact zc (Kd.C_below HR0.out HB.out)); (case side2 => exact HC0.out); rintro e w20 ⟨rfl, hb⟩; refine ⟨_, rfl, ?_⟩; replace BK145 := zk BK145 hb; replace BK146 := zk BK146 hb; replace HB := zd hb; (try clear hb); have hmc := cell_keep HB.out HM.out (World.block_lt_of_cell? _ _ HM.out)) | ((with_reducible refine gC 52 rfl ?_); refine gL 19 Try.func52 #[.int .i64 a1] ?_; (with_reducible refine (card_heading.calls a1 true _ A5.out).mono ?_); rintro e w' ⟨rfl, ⟨nd, rfl⟩⟩; refine ⟨_, rfl, ?_⟩; (try (rw [drewN_self w20]; generalize hq_ : World.drewN w20 _ = w20; have n0_ : Aside0 (w20.heap[gb145]? = some (.cells #[.int .i64 0, .int .i64 0] 29 (0, 0))) := ⟨by rw [← hq_]; exact (zb BK145)⟩; have n1_ : Aside0 (w20.heap[gb146]? = some (.cells #[.int .i64 0, .int .i64 0] 29 (0, 0))) := ⟨by rw [← hq_]; exact (zb BK146)⟩; have n2_ : Aside0 (Below w1.heap.size w1 w20) := ⟨by rw [← hq_]; exact zh⟩; clear BK145 BK146 HB hq_; have BK145 := n0_; have BK146 := n1_; have HB := n2_; clear n0_ n1_ n2_))) | ((with_reducible refine gC 77 rfl ?_); refine gL 25 Try.func77 #[.slice A0 l0.length c0] ?_; (with_reducible refine (card_Known_folds.calls k _ _ l0 false _ ?side1 ?side2 A7.out).mono ?_); (case side1 => exact zc (Kd.C_below HR0.out HB.out)); (case side2 => exact HC0.out); rintro e w21 ⟨rfl, hb⟩; refine ⟨_, rfl, ?_⟩; replace BK145 := zk BK145 hb; replace BK146 := zk BK146 hb; replace HB := zd hb; (try clear hb)) | ((with_reducible refine gC 79 rfl ?_); refine gL 30 Try.func79 #[.slice A0 l0.length c0, .func (.func 80) #[] #[]] ?_; (with_reducible refine (card_Known_eachLo.calls k _ _ l0 t150 _ ?side1 ?side2 A13.out).mono ?_); (case side1 => exact zc (Kd.C_below HR0.out HB.out)); (case side2 => exact HC0.out); rintro e w22 ⟨v151, rfl, ho0, hb⟩; refine ⟨_, rfl, ?_⟩; have HO152 := Aside0.mk (Kd.R_lower ho0 (below_size zh)); replace BK145 := zk BK145 hb; replace BK146 := zk BK146 hb; replace HB := zd hb; (try clear hb); (try clear ho0)) | ((with_reducible refine gC 79 rfl ?_); refine gL 32 Try.func79 #[.slice A0 l0.length c0, .func (.func 81) #[] #[]] ?_; (with_reducible refine (card_Known_eachHi.calls k _ _ l0 t153 _ ?side1 ?side2 A14.out).mono ?_); (case side1 => exact zc (Kd.C_below HR0.out HB.out)); (case side2 => exact HC0.out); rintro e w23 ⟨v154, rfl, ho0, hb⟩; refine ⟨_, rfl, ?_⟩; have HO155 := Aside0.mk (Kd.R_lower (Kd.R_new' ho0 (Kd.R_lt (zo HO152.out))) (below_size zh)); replace HO152 := Aside0.mk (Kd.R_elder' (zo HO152.out) (Kd.R_base ho0) hb); replace BK145 := zk BK145 hb; replace BK146 := zk BK146 hb; replace HB := zd hb; (try clear hb); (try clear ho0); obtain ⟨Ao24, co24, eo24⟩ := Kd.R_slice HO152.out; subst eo24; obtain ⟨Ao25, co25, eo25⟩ := Kd.R_slice HO155.out; subst eo25) | ((with_reducible refine gC 78 rfl ?_); refine gL 34 Try.func78 #[.slice Ao24 t150.length co24, .slice Ao25 t153.length co25, .func (.func 82) #[] #[.pointer (some ⟨gbm, 0, none⟩)]] ?_; (with_reducible refine (card_ratio_78.calls k _ _ t150 _ _ t153 a1 t156 t157 t158 t159 _ gbm (cell_keep HB.out HM.out (World.block_lt_of_cell? _ _ HM.out)) ?side1 ?side2 ?side3 ?side4 A15.out).mono ?_); (case side1 => exact zc (Kd.R_reads' HO152.out).2.2); (case side2 => exact (Kd.R_reads' HO152.out).2.1); (case side3 => exact zc (Kd.R_reads' HO155.out).2.2); (case side4 => exact (Kd.R_reads' HO155.out).2.1); rintro e w26 ⟨rfl, hb⟩; refine ⟨_, rfl, ?_⟩; replace HO152 := zr HO152 hb; replace HO155 := zr HO155 hb; replace BK145 := zk BK145 hb; replace BK146 := zk BK146 hb; replace HB := zd hb; (try clear hb)) | ((with_reducible refine gD 7 rfl ?_); refine zx 7 #[.int .i64 0, .int .i64 0] 101 ?_; intro gb160 hg w27 hbox hb; replace HO152 := zr HO152 hb; replace HO155 := zr HO155 hb; have BK160 := Aside0.mk (hbox); have GE160 := zG w1 hg; replace HB := zd hb; have NB145_160 := zN BK145 hg; have NB160_145 := zM BK145 hg; replace BK145 := zk BK145 hb; have NB146_160 := zN BK146 hg; have NB160_146 := zM BK146 hg; replace BK146 := zk BK146 hb; clear hb hbox hg) | ((with_reducible refine gD 8 rfl ?_); refine zx 8 #[.int .i64 0, .int .i64 0] 101 ?_; intro gb161 hg w28 hbox hb; replace HO152 := zr HO152 hb; replace HO155 := zr HO155 hb; have BK161 := Aside0.mk (hbox); have GE161 := zG w1 hg; replace HB := zd hb; have NB145_161 := zN BK145 hg; have NB161_145 := zM BK145 hg; replace BK145 := zk BK145 hb; have NB146_161 := zN BK146 hg; have NB161_146 := zM BK146 hg; replace BK146 := zk BK146 hb; have NB160_161 := zN BK160 hg; have NB161_160 := zM BK160 hg; replace BK160 := zk BK160 hb; clear hb hbox hg; have hnb29 := NB160_145.out; have hnc29 := NB145_160.out; have hnb30 := NB160_146.out; have hnc30 := NB146_160.out; have hnb31 := NB160_161.out; have hnc31 := NB161_160.out; have hcz32_0 : w28.cell? ⟨gb160, 0, none⟩ = some (.int .i64 0) := zy BK160 0; have hcz32_1 : w28.cell? ⟨gb160, 1, none⟩ = some (.int .i64 0) := zy BK160 1; have hfz32_0 := blk_frozen BK160.out 0; have hfz32_1 := blk_frozen BK160.out 1; have hnb33 := NB161_145.out; have hnc33 := NB145_161.out; have hnb34 := NB161_146.out; have hnc34 := NB146_161.out; have hcz35_0 : w28.cell? ⟨gb161, 0, none⟩ = some (.int .i64 0) := zy BK161 0; have hcz35_1 : w28.cell? ⟨gb161, 1, none⟩ = some (.int .i64 0) := zy BK161 1; have hfz35_0 := blk_frozen BK161.out 0; have hfz35_1 := blk_frozen BK161.out 1))
    have n0_ : Aside0 (Kd.R k55 55 ((((w28.setCell ⟨gb160, 0, none⟩ (.int .i64 t156)).setCell ⟨gb160, 1, none⟩ (.int .i64 t157)).setCell ⟨gb161, 0, none⟩ (.int .i64 t158)).setCell ⟨gb161, 1, none⟩ (.int .i64 t159)) w1.heap.size (fun k_ => some k_ ≠ (.slice Ao25 t153.length co25 : Value).ownBlock) (.slice Ao24 t150.length co24) t150) := ⟨by refine zl ?_; exact Kd.R_mono (Kd.R_far (p := ⟨gb161, 1, none⟩) (Kd.R_far (p := ⟨gb161, 0, none⟩) (Kd.R_far (p := ⟨gb160, 1, none⟩) (Kd.R_far (p := ⟨gb160, 0, none⟩) (Kd.R_types (Kd.R_types HO152.out BK160.out (by decide)) BK161.out (by decide)) (fun _ hk => hk.1.2) (.int .i64 t156)) (fun _ hk => hk.1.2) (.int .i64 t157)) (fun _ hk => hk.2) (.int .i64 t158)) (fun _ hk => hk.2) (.int .i64 t159)) (fun _ hk => hk.1.1.2)⟩
    have n1_ : Aside0 (Kd.R k55 55 ((((w28.setCell ⟨gb160, 0, none⟩ (.int .i64 t156)).setCell ⟨gb160, 1, none⟩ (.int .i64 t157)).setCell ⟨gb161, 0, none⟩ (.int .i64 t158)).setCell ⟨gb161, 1, none⟩ (.int .i64 t159)) w1.heap.size (fun k_ => some k_ ≠ (.slice Ao24 t150.length co24 : Value).ownBlock) (.slice Ao25 t153.length co25) t153) := ⟨by refine zl ?_; exact Kd.R_mono (Kd.R_far (p := ⟨gb161, 1, none⟩) (Kd.R_far (p := ⟨gb161, 0, none⟩) (Kd.R_far (p := ⟨gb160, 1, none⟩) (Kd.R_far (p := ⟨gb160, 0, none⟩) (Kd.R_types (Kd.R_types HO155.out BK160.out (by decide)) BK161.out (by decide)) (fun _ hk => hk.1.2) (.int .i64 t156)) (fun _ hk => hk.1.2) (.int .i64 t157)) (fun _ hk => hk.2) (.int .i64 t158)) (fun _ hk => hk.2) (.int .i64 t159)) (fun _ hk => hk.1.1.2)⟩
    have n2_ : Aside0 (((((w28.setCell ⟨gb160, 0, none⟩ (.int .i64 t156)).setCell ⟨gb160, 1, none⟩ (.int .i64 t157)).setCell ⟨gb161, 0, none⟩ (.int .i64 t158)).setCell ⟨gb161, 1, none⟩ (.int .i64 t159)).heap[gb145]? = some (.cells #[.int .i64 0, .int .i64 0] 29 (0, 0))) := ⟨by refine zm ?_; refine blk_far ?_ NB145_161.out _; refine zm ?_; refine blk_far ?_ NB145_161.out _; refine zm ?_; refine blk_far ?_ NB145_160.out _; refine zm ?_; refine blk_far ?_ NB145_160.out _; refine zm ?_; exact BK145.out⟩
    have n3_ : Aside0 (((((w28.setCell ⟨gb160, 0, none⟩ (.int .i64 t156)).setCell ⟨gb160, 1, none⟩ (.int .i64 t157)).setCell ⟨gb161, 0, none⟩ (.int .i64 t158)).setCell ⟨gb161, 1, none⟩ (.int .i64 t159)).heap[gb146]? = some (.cells #[.int .i64 0, .int .i64 0] 29 (0, 0))) := ⟨by refine zm ?_; refine blk_far ?_ NB146_161.out _; refine zm ?_; refine blk_far ?_ NB146_161.out _; refine zm ?_; refine blk_far ?_ NB146_160.out _; refine zm ?_; refine blk_far ?_ NB146_160.out _; refine zm ?_; exact BK146.out⟩
    have n4_ : Aside0 (((((w28.setCell ⟨gb160, 0, none⟩ (.int .i64 t156)).setCell ⟨gb160, 1, none⟩ (.int .i64 t157)).setCell ⟨gb161, 0, none⟩ (.int .i64 t158)).setCell ⟨gb161, 1, none⟩ (.int .i64 t159)).heap[gb160]? = some (.cells #[.int .i64 t156, .int .i64 t157] 101 (0, 0))) := ⟨by refine zm ?_; refine blk_far ?_ NB160_161.out _; refine zm ?_; refine blk_far ?_ NB160_161.out _; refine zm ?_; refine blk_put (cs := #[.int .i64 t156, .int .i64 0]) ?_ 1 _ rfl; refine zm ?_; refine blk_put (cs := #[.int .i64 0, .int .i64 0]) ?_ 0 _ rfl; refine zm ?_; exact BK160.out⟩
    have n5_ : Aside0 (((((w28.setCell ⟨gb160, 0, none⟩ (.int .i64 t156)).setCell ⟨gb160, 1, none⟩ (.int .i64 t157)).setCell ⟨gb161, 0, none⟩ (.int .i64 t158)).setCell ⟨gb161, 1, none⟩ (.int .i64 t159)).heap[gb161]? = some (.cells #[.int .i64 t158, .int .i64 t159] 101 (0, 0))) := ⟨by refine zm ?_; refine blk_put (cs := #[.int .i64 t158, .int .i64 0]) ?_ 1 _ rfl; refine zm ?_; refine blk_put (cs := #[.int .i64 0, .int .i64 0]) ?_ 0 _ rfl; refine zm ?_; refine blk_far ?_ NB161_160.out _; refine zm ?_; refine blk_far ?_ NB161_160.out _; refine zm ?_; exact BK161.out⟩
    have n6_ : Aside0 (Below w1.heap.size w1 ((((w28.setCell ⟨gb160, 0, none⟩ (.int .i64 t156)).setCell ⟨gb160, 1, none⟩ (.int .i64 t157)).setCell ⟨gb161, 0, none⟩ (.int .i64 t158)).setCell ⟨gb161, 1, none⟩ (.int .i64 t159))) := ⟨zh⟩
    (try clear HO152)
    (try clear HO155)
    (try clear BK145)
    (try clear BK146)
    (try clear BK160)
    (try clear BK161)
    (try clear HB)
    generalize ((((w28.setCell ⟨gb160, 0, none⟩ (.int .i64 t156)).setCell ⟨gb160, 1, none⟩ (.int .i64 t157)).setCell ⟨gb161, 0, none⟩ (.int .i64 t158)).setCell ⟨gb161, 1, none⟩ (.int .i64 t159)) = w36 at n0_ n1_ n2_ n3_ n4_ n5_ n6_ ⊢
    have HO152 := n0_
    have HO155 := n1_
    have BK145 := n2_
    have BK146 := n3_
    have BK160 := n4_
    have BK161 := n5_
    have HB := n6_
    clear n0_ n1_ n2_ n3_ n4_ n5_ n6_
    replace HO152 := Aside0.mk (Kd.R_drew HO152.out)
    replace HO155 := Aside0.mk (Kd.R_drew HO155.out)
    replace BK145 := Aside0.mk (blk_drew BK145.out)
    replace BK146 := Aside0.mk (blk_drew BK146.out)
    replace BK160 := Aside0.mk (blk_drew BK160.out)
    replace BK161 := Aside0.mk (blk_drew BK161.out)
    replace HB := Aside0.mk (below_drew1 HB.out)
    refine start_ (n := 7) (S := fun w' => w'.cell? ⟨gb160, 0, none⟩ = some (.int .i64 t156) ∧ w'.cell? ⟨gb160, 1, none⟩ = some (.int .i64 t157) ∧ w'.cell? ⟨gb161, 0, none⟩ = some (.int .i64 t158) ∧ w'.cell? ⟨gb161, 1, none⟩ = some (.int .i64 t159)) (ds := []) #[false, false, false, false, false, false, false] (by kernel_rfl) rfl rfl ⟨zy BK160 0, zy BK160 1, zy BK161 0, zy BK161 1⟩ (fun hHeld => ?_)
    generalize w36.drew = w37 at HO152 HO155 BK145 BK146 BK160 BK161 HB hHeld ⊢
    refine take_ (i := 0) (N := some 37) (v := ?_) (a' := ?_) #[true, false, false, false, false, false, false] rfl rfl (by kernel_rfl) (fun _ _ _ h => h) (Or.inl ⟨by rfl, ?_⟩) hHeld ?_ ?_
    rotate_left
    ·rintro w' ⟨s0, s1, s2, s3⟩
     go_simp
     with_reducible rfl
    rotate_left
    ·simp only [Act.put, List.setIfInBounds_toArray, List.set_cons_zero, List.set_cons_succ, i64_w, i32_w]
     rfl
    refine take_ (i := 2) (N := some 39) (v := ?_) (a' := ?_) #[true, false, true, false, false, false, false] rfl rfl (by kernel_rfl) (fun _ _ _ h => h) (Or.inl ⟨by rfl, ?_⟩) hHeld ?_ ?_
    rotate_left
    ·rintro w' ⟨s0, s1, s2, s3⟩
     go_simp
     with_reducible rfl
    rotate_left
    ·simp only [Act.put, List.setIfInBounds_toArray, List.set_cons_zero, List.set_cons_succ, i64_w, i32_w]
     rfl
    refine one_ (i := 1) (N := some 38) #[true, true, true, false, false, false, false] rfl rfl (by kernel_rfl) (by decide) (fun K hK => ?_)
    refine goes_ Try.func55 (by kernel_rfl) rfl #[.agg #[.int .i64 t156, .int .i64 t157]] (by rfl) rfl rfl zs ?_
    with_reducible refine (card_ratio_out.calls t156 t157 t162 t163 _ A16.out).mono ?_
    rintro e w38 ⟨rfl, hb⟩
    refine ⟨_, rfl, ?_⟩
    replace BK145 := zk BK145 hb
    replace BK146 := zk BK146 hb
    replace BK160 := zk BK160 hb
    replace BK161 := zk BK161 hb
    replace HB := zd hb
    (try clear hb)
    (try clear hb2)
    (try clear hk)
    (try clear hi)
    refine hK.out _ _ ⟨zy BK160 0, zy BK160 1, zy BK161 0, zy BK161 1⟩ (fun hHeld => ?_)
    clear hK K
    refine norm_ (a' := ?_) ?_ ?_
    rotate_left
    ·show Act.put _ (some 38) _ = _
     simp only [Act.put, List.setIfInBounds_toArray, List.set_cons_zero, List.set_cons_succ, i64_w, i32_w]
     rfl
    refine one_ (i := 3) (N := some 40) #[true, true, true, true, false, false, false] rfl rfl (by kernel_rfl) (by decide) (fun K hK => ?_)
    refine goes_ Try.func55 (by kernel_rfl) rfl #[.agg #[.int .i64 t158, .int .i64 t159]] (by rfl) rfl rfl zs ?_
    with_reducible refine (card_ratio_out.calls t158 t159 t164 t165 _ A17.out).mono ?_
    rintro e w39 ⟨rfl, hb⟩
    refine ⟨_, rfl, ?_⟩
    replace BK145 := zk BK145 hb
    replace BK146 := zk BK146 hb
    replace BK160 := zk BK160 hb
    replace BK161 := zk BK161 hb
    replace HB := zd hb
    (try clear hb)
    (try clear hb2)
    (try clear hk)
    (try clear hi)
    refine hK.out _ _ ⟨zy BK160 0, zy BK160 1, zy BK161 0, zy BK161 1⟩ (fun hHeld => ?_)
    clear hK K
    refine norm_ (a' := ?_) ?_ ?_
    rotate_left
    ·show Act.put _ (some 40) _ = _
     simp only [Act.put, List.setIfInBounds_toArray, List.set_cons_zero, List.set_cons_succ, i64_w, i32_w]
     rfl
    refine one_ (i := 4) (N := none) #[true, true, true, true, true, false, false] rfl rfl (by kernel_rfl) (by decide) (fun K hK => ?_)
    have hs40 : w39.cell? ⟨gb145, 0, none⟩ = some (.int .i64 0) := zy BK145 0
    have hfs40 := blk_frozen BK145.out 0
    have hns40_1 := NB146_145.out
    have hns40_2 := NB160_145.out
    have hns40_3 := NB161_145.out
    have hms40_1 := NB145_146.out
    have hms40_2 := NB145_160.out
    have hms40_3 := NB145_161.out
    have hs41 : w39.cell? ⟨gb145, 1, none⟩ = some (.int .i64 0) := zy BK145 1
    have hfs41 := blk_frozen BK145.out 1
    have hns41_1 := NB146_145.out
    have hns41_2 := NB160_145.out
    have hns41_3 := NB161_145.out
    have hms41_1 := NB145_146.out
    have hms41_2 := NB145_160.out
    have hms41_3 := NB145_161.out
    refine skip_ (w1 := ?_) (by rfl) rfl ?_ ?_
    rotate_left
    ·go_simp
     rfl
    refine hK.out _ _ ⟨((cell_far (p := ⟨gb145, _, none⟩) NB160_145.out _).trans (((cell_far (p := ⟨gb145, _, none⟩) NB160_145.out _).trans (hHeld.1)))), ((cell_far (p := ⟨gb145, _, none⟩) NB160_145.out _).trans (((cell_far (p := ⟨gb145, _, none⟩) NB160_145.out _).trans (hHeld.2.1)))), ((cell_far (p := ⟨gb145, _, none⟩) NB161_145.out _).trans (((cell_far (p := ⟨gb145, _, none⟩) NB161_145.out _).trans (hHeld.2.2.1)))), ((cell_far (p := ⟨gb145, _, none⟩) NB161_145.out _).trans (((cell_far (p := ⟨gb145, _, none⟩) NB161_145.out _).trans (hHeld.2.2.2))))⟩ (fun hHeld => ?_)
    clear hK K
    refine one_ (i := 5) (N := none) #[true, true, true, true, true, true, false] rfl rfl (by kernel_rfl) (by decide) (fun K hK => ?_)
    have hs42 : w39.cell? ⟨gb146, 0, none⟩ = some (.int .i64 0) := zy BK146 0
    have hfs42 := blk_frozen BK146.out 0
    have hns42_0 := NB145_146.out
    have hns42_2 := NB160_146.out
    have hns42_3 := NB161_146.out
    have hms42_0 := NB146_145.out
    have hms42_2 := NB146_160.out
    have hms42_3 := NB146_161.out
    have hs43 : w39.cell? ⟨gb146, 1, none⟩ = some (.int .i64 0) := zy BK146 1
    have hfs43 := blk_frozen BK146.out 1
    have hns43_0 := NB145_146.out
    have hns43_2 := NB160_146.out
    have hns43_3 := NB161_146.out
    have hms43_0 := NB146_145.out
    have hms43_2 := NB146_160.out
    have hms43_3 := NB146_161.out
    refine skip_ (w1 := ?_) (by rfl) rfl ?_ ?_
    rotate_left
    ·go_simp
     rfl
    refine hK.out _ _ ⟨((cell_far (p := ⟨gb146, _, none⟩) NB160_146.out _).trans (((cell_far (p := ⟨gb146, _, none⟩) NB160_146.out _).trans (hHeld.1)))), ((cell_far (p := ⟨gb146, _, none⟩) NB160_146.out _).trans (((cell_far (p := ⟨gb146, _, none⟩) NB160_146.out _).trans (hHeld.2.1)))), ((cell_far (p := ⟨gb146, _, none⟩) NB161_146.out _).trans (((cell_far (p := ⟨gb146, _, none⟩) NB161_146.out _).trans (hHeld.2.2.1)))), ((cell_far (p := ⟨gb146, _, none⟩) NB161_146.out _).trans (((cell_far (p := ⟨gb146, _, none⟩) NB161_146.out _).trans (hHeld.2.2.2))))⟩ (fun hHeld => ?_)
    clear hK K
    refine pz (i := 6) (N := some 6) (zA 7 127) rfl rfl (by kernel_rfl) ?_
    refine done_ (by kernel_rfl) ?_
    try go_wp2
    refine bodyPost_ret (results_list (rs := [.cell 4 29, .cell 5 29, .tmp 6]) rfl (by simp) (.cell gb145 29 #[.int .i64 t162, .int .i64 t163] (0, 0) _ rfl (by refine zm ?_; refine blk_far ?_ NB145_146.out _; refine zm ?_; refine blk_far ?_ NB145_146.out _; refine zm ?_; refine blk_put (cs := #[.int .i64 t162, .int .i64 0]) ?_ 1 _ rfl; refine zm ?_; refine blk_put (cs := #[.int .i64 0, .int .i64 0]) ?_ 0 _ rfl; refine zm ?_; exact BK145.out) Try.underlying29 rfl (by kernel_rfl) (.cell gb146 29 #[.int .i64 t164, .int .i64 t165] (0, 0) _ rfl (by refine zm ?_; refine blk_put (cs := #[.int .i64 t164, .int .i64 0]) ?_ 1 _ rfl; refine zm ?_; refine blk_put (cs := #[.int .i64 0, .int .i64 0]) ?_ 0 _ rfl; refine zm ?_; refine blk_far ?_ NB146_145.out _; refine zm ?_; refine blk_far ?_ NB146_145.out _; refine zm ?_; exact BK146.out) Try.underlying29 rfl (by kernel_rfl) (.tmp .nil)))) rfl ?_
    exact ⟨ze, below_fin HBW.out zh⟩
  ·replace c6 := Bool.eq_false_iff.mpr c6
   subst c6
   rw [if_neg (show ¬ (false = true) by decide)] at H
   simp only [Option.some.injEq, Prod.mk.injEq] at H
   obtain ⟨rfl, rfl, rfl, rfl, rfl⟩ := H
   go_enter Try.func33, Try.ntmps33
   go_wp2_with (first | ((with_reducible refine gD 3 rfl ?_); refine zx 3 #[.int .i64 a1] 3 ?_; intro gbm hg w1 hbox hb; have HBW := Aside0.mk (below_step HB.out hb); have HM := Aside0.mk (show w1.cell? ⟨gbm, 0, none⟩ = some (.int .i64 a1) from (blk_cell hbox 0).trans rfl); have HRn := Aside0.mk (Kd.C_below HR0.out hb); clear HR0; have HR0 := HRn; clear HRn; clear HB; have HB := Aside0.mk (Below.refl w1.heap.size w1); clear hb hbox hg) | ((with_reducible refine gD 4 rfl ?_); refine zx 4 #[.int .i64 0, .int .i64 0] 29 ?_; intro gb145 hg w44 hbox hb; have BK145 := Aside0.mk (hbox); have GE145 := zG w1 hg; replace HB := zd hb; clear hb hbox hg) | ((with_reducible refine gD 5 rfl ?_); refine zx 5 #[.int .i64 0, .int .i64 0] 29 ?_; intro gb146 hg w45 hbox hb; have BK146 := Aside0.mk (hbox); have GE146 := zG w1 hg; replace HB := zd hb; have NB145_146 := zN BK145 hg; have NB146_145 := zM BK145 hg; replace BK145 := zk BK145 hb; clear hb hbox hg) | ((with_reducible refine gC 62 rfl ?_); refine gL 10 Try.func62 #[.slice A0 l0.length c0] ?_; (with_reducible refine (card_Known_check.calls k _ _ l0 t147 _ ?side1 ?side2 A3.out).mono ?_); (case side1 => exact zc (Kd.C_below HR0.out HB.out)); (case side2 => exact HC0.out); rintro e w46 ⟨rfl, hb⟩; refine ⟨_, rfl, ?_⟩; replace BK145 := zk BK145 hb; replace BK146 := zk BK146 hb; replace HB := zd hb; (try clear hb); have hmc := cell_keep HB.out HM.out (World.block_lt_of_cell? _ _ HM.out)) | ((with_reducible refine gC 52 rfl ?_); refine gL 19 Try.func52 #[.int .i64 a1] ?_; (with_reducible refine (card_heading.calls a1 false _ A5.out).mono ?_); rintro e w' ⟨rfl, ⟨nd, rfl⟩⟩; refine ⟨_, rfl, ?_⟩))
   have H145 := BK145
   have H146 := BK146
   refine start_ (n := 5) (S := fun w' => True) (ds := []) #[false, false, false, false, false] (by kernel_rfl) rfl rfl trivial (fun hHeld => ?_)
   refine inv_at (T := withinT5) (B := withinT5B) [0, 1, 2, 3, 4] (fun a0_ b a w' => a = putSel a0_ b [(0, 21, .agg #[.int .i64 0, .int .i64 0]), (1, 22, .agg #[.int .i64 0, .int .i64 0]), (4, 6, .int .i64 1)] ∧ (Below w1.heap.size w1 w') ∧ (Box2 w' gb145 29 (.int .i64 0) (.int .i64 0)) ∧ (Box2 w' gb146 29 (.int .i64 0) (.int .i64 0))) (by kernel_rfl) (by kernel_rfl) (by kernel_rfl) (by kernel_rfl) ?_ ?_ ?_
   ·exact ⟨by simp only [putSel, Bool.false_eq_true, if_false], zh, (by unfold Box2; refine zm ?_; exact BK145.out), (by unfold Box2; refine zm ?_; exact BK146.out)⟩
   ·skip
    clear H145 H146 HB
    refine steps_cons ?_ ?_
    ·rintro b a w' ⟨ha, Q_HB, Q_H145, Q_H146⟩ hb_ hon hoff
     refine ⟨_, rfl, fun K hK => ?_⟩
     have e4 : a.tmps[4]? = some (.pointer (some ⟨gb145, 0, none⟩)) := by rw [ha]; exact (putSel_off rfl).trans rfl
     replace ha := Aside0.mk ha
     have HB := Aside0.mk Q_HB
     have H145 := Aside0.mk Q_H145
     have H146 := Aside0.mk Q_H146
     have hc0 := H145.out.cell0
     have hc1 := H145.out.cell1
     refine value_ (w1 := w') (v := .agg #[.int .i64 0, .int .i64 0]) (by rfl) rfl ?_ ?_
     ·go_simp
      (try simp only [i64_w])
      try rfl
     refine hK.out _ _ ⟨(by rw [ha.out]; exact putSel_upk 0 hb_ rfl rfl rfl), Q_HB, Q_H145, Q_H146⟩
    refine steps_cons ?_ ?_
    ·rintro b a w' ⟨ha, Q_HB, Q_H145, Q_H146⟩ hb_ hon hoff
     refine ⟨_, rfl, fun K hK => ?_⟩
     have e5 : a.tmps[5]? = some (.pointer (some ⟨gb146, 0, none⟩)) := by rw [ha]; exact (putSel_off rfl).trans rfl
     replace ha := Aside0.mk ha
     have HB := Aside0.mk Q_HB
     have H145 := Aside0.mk Q_H145
     have H146 := Aside0.mk Q_H146
     have hc0 := H146.out.cell0
     have hc1 := H146.out.cell1
     refine value_ (w1 := w') (v := .agg #[.int .i64 0, .int .i64 0]) (by rfl) rfl ?_ ?_
     ·go_simp
      (try simp only [i64_w])
      try rfl
     refine hK.out _ _ ⟨(by rw [ha.out]; exact putSel_upk 1 hb_ rfl rfl rfl), Q_HB, Q_H145, Q_H146⟩
    refine steps_cons ?_ ?_
    ·rintro b a w' ⟨ha, Q_HB, Q_H145, Q_H146⟩ hb_ hon hoff
     refine ⟨_, rfl, fun K hK => ?_⟩
     have e4 : a.tmps[4]? = some (.pointer (some ⟨gb145, 0, none⟩)) := by rw [ha]; exact (putSel_off rfl).trans rfl
     have e21 : a.tmps[21]? = some (.agg #[.int .i64 0, .int .i64 0]) := by rw [ha]; exact putSel_on (e := (0, 21, .agg #[.int .i64 0, .int .i64 0])) 0 rfl rfl (hon 0 (by kernel_rfl)) rfl
     replace ha := Aside0.mk ha
     have HB := Aside0.mk Q_HB
     have H145 := Aside0.mk Q_H145
     have H146 := Aside0.mk Q_H146
     have hc0 := H145.out.cell0
     have hc1 := H145.out.cell1
     have hf0 := H145.out.frozen0
     have hf1 := H145.out.frozen1
     refine skip_ (w1 := ?_) (by rfl) rfl ?_ ?_
     rotate_left
     ·go_simp
      rfl
     refine hK.out _ _ ⟨(by rw [ha.out]; exact putSel_none (v := undef) rfl), below_set (below_set HB.out GE145.out) GE145.out, H145.out.set2 _ _, box2_farW NB145_146.out (box2_farW NB145_146.out H146.out)⟩
    refine steps_cons ?_ ?_
    ·rintro b a w' ⟨ha, Q_HB, Q_H145, Q_H146⟩ hb_ hon hoff
     refine ⟨_, rfl, fun K hK => ?_⟩
     have e5 : a.tmps[5]? = some (.pointer (some ⟨gb146, 0, none⟩)) := by rw [ha]; exact (putSel_off rfl).trans rfl
     have e22 : a.tmps[22]? = some (.agg #[.int .i64 0, .int .i64 0]) := by rw [ha]; exact putSel_on (e := (1, 22, .agg #[.int .i64 0, .int .i64 0])) 1 rfl rfl (hon 1 (by kernel_rfl)) rfl
     replace ha := Aside0.mk ha
     have HB := Aside0.mk Q_HB
     have H145 := Aside0.mk Q_H145
     have H146 := Aside0.mk Q_H146
     have hc0 := H146.out.cell0
     have hc1 := H146.out.cell1
     have hf0 := H146.out.frozen0
     have hf1 := H146.out.frozen1
     refine skip_ (w1 := ?_) (by rfl) rfl ?_ ?_
     rotate_left
     ·go_simp
      rfl
     refine hK.out _ _ ⟨(by rw [ha.out]; exact putSel_none (v := undef) rfl), below_set (below_set HB.out GE146.out) GE146.out, box2_farW NB146_145.out (box2_farW NB146_145.out H145.out), H146.out.set2 _ _⟩
    refine steps_cons ?_ ?_
    ·rintro b a w' ⟨ha, Q_HB, Q_H145, Q_H146⟩ hb_ hon hoff
     refine ⟨_, rfl, fun K hK => ?_⟩
     replace ha := Aside0.mk ha
     have HB := Aside0.mk Q_HB
     have H145 := Aside0.mk Q_H145
     have H146 := Aside0.mk Q_H146
     refine value_ (w1 := w') (v := .int .i64 1) (by rfl) rfl ?_ ?_
     ·go_simp
      (try simp only [i64_w])
      try rfl
     refine hK.out _ _ ⟨(by rw [ha.out]; exact putSel_upk 2 hb_ rfl rfl rfl), Q_HB, Q_H145, Q_H146⟩
    exact steps_nil
   ·rintro b a w' hall ⟨ha, Q_HB, Q_H145, Q_H146⟩
    clear H145 H146 HB
    have hb0_ := hall 0 (by kernel_rfl)
    have hb1_ := hall 1 (by kernel_rfl)
    have hb2_ := hall 2 (by kernel_rfl)
    have hb3_ := hall 3 (by kernel_rfl)
    have hb4_ := hall 4 (by kernel_rfl)
    subst ha
    simp only [putSel, hb0_, hb1_, hb2_, hb3_, hb4_, if_true, Act.put, List.setIfInBounds_toArray, List.set_cons_zero, List.set_cons_succ]
    have HB := Aside0.mk Q_HB
    clear Q_HB
    have H145 := Aside0.mk Q_H145
    clear Q_H145
    have H146 := Aside0.mk Q_H146
    clear Q_H146
    clear hall hb0_ hb1_ hb2_ hb3_ hb4_
    have BK145 := H145
    have BK146 := H146
    go_wp2
    refine bodyPost_ret (results_list (rs := [.cell 4 29, .cell 5 29, .tmp 6]) rfl (by simp) (.cell gb145 29 #[.int .i64 0, .int .i64 0] (0, 0) _ rfl (zb BK145) Try.underlying29 rfl (by kernel_rfl) (.cell gb146 29 #[.int .i64 0, .int .i64 0] (0, 0) _ rfl (zb BK146) Try.underlying29 rfl (by kernel_rfl) (.tmp .nil)))) rfl ?_
    exact ⟨ze, below_fin HBW.out zh⟩
 ·rw [if_neg c4] at H
  have c4b0 : (t147 == 0) = false := beq_eq_false_iff_ne.mpr c4
  have c4b1 : (t147 != 0) = true := bne_iff_ne.mpr c4
  simp only [Option.some.injEq, Prod.mk.injEq] at H
  obtain ⟨rfl, rfl, rfl, rfl, rfl⟩ := H
  go_enter Try.func33, Try.ntmps33
  go_wp2_with (first | ((with_reducible refine gD 3 rfl ?_); refine zx 3 #[.int .i64 a1] 3 ?_; intro gbm hg w1 hbox hb; have HBW := Aside0.mk (below_step HB.out hb); have HM := Aside0.mk (show w1.cell? ⟨gbm, 0, none⟩ = some (.int .i64 a1) from (blk_cell hbox 0).trans rfl); have HRn := Aside0.mk (Kd.C_below HR0.out hb); clear HR0; have HR0 := HRn; clear HRn; clear HB; have HB := Aside0.mk (Below.refl w1.heap.size w1); clear hb hbox hg) | ((with_reducible refine gD 4 rfl ?_); refine zx 4 #[.int .i64 0, .int .i64 0] 29 ?_; intro gb145 hg w47 hbox hb; have BK145 := Aside0.mk (hbox); have GE145 := zG w1 hg; replace HB := zd hb; clear hb hbox hg) | ((with_reducible refine gD 5 rfl ?_); refine zx 5 #[.int .i64 0, .int .i64 0] 29 ?_; intro gb146 hg w48 hbox hb; have BK146 := Aside0.mk (hbox); have GE146 := zG w1 hg; replace HB := zd hb; have NB145_146 := zN BK145 hg; have NB146_145 := zM BK145 hg; replace BK145 := zk BK145 hb; clear hb hbox hg) | ((with_reducible refine gC 62 rfl ?_); refine gL 10 Try.func62 #[.slice A0 l0.length c0] ?_; (with_reducible refine (card_Known_check.calls k _ _ l0 t147 _ ?side1 ?side2 A3.out).mono ?_); (case side1 => exact zc (Kd.C_below HR0.out HB.out)); (case side2 => exact HC0.out); rintro e w49 ⟨rfl, hb⟩; refine ⟨_, rfl, ?_⟩; replace BK145 := zk BK145 hb; replace BK146 := zk BK146 hb; replace HB := zd hb; (try clear hb); have hmc := cell_keep HB.out HM.out (World.block_lt_of_cell? _ _ HM.out)))
  have H145 := BK145
  have H146 := BK146
  refine start_ (n := 6) (S := fun w' => True) (ds := []) #[false, false, false, false, false, false] (by kernel_rfl) rfl rfl trivial (fun hHeld => ?_)
  refine inv_at (T := withinT3) (B := withinT3B) [0, 1, 2, 3, 4, 5] (fun a0_ b a w' => a = putSel a0_ b [(0, 14, .agg #[.int .i64 0, .int .i64 0]), (1, 15, .agg #[.int .i64 0, .int .i64 0]), (2, 16, .int .i64 t147), (5, 6, .int .i64 t147)] ∧ (Below w1.heap.size w1 w') ∧ (Box2 w' gb145 29 (.int .i64 0) (.int .i64 0)) ∧ (Box2 w' gb146 29 (.int .i64 0) (.int .i64 0))) (by kernel_rfl) (by kernel_rfl) (by kernel_rfl) (by kernel_rfl) ?_ ?_ ?_
  ·exact ⟨by simp only [putSel, Bool.false_eq_true, if_false], zh, (by unfold Box2; refine zm ?_; exact BK145.out), (by unfold Box2; refine zm ?_; exact BK146.out)⟩
  ·skip
   clear H145 H146 HB
   refine steps_cons ?_ ?_
   ·rintro b a w' ⟨ha, Q_HB, Q_H145, Q_H146⟩ hb_ hon hoff
    refine ⟨_, rfl, fun K hK => ?_⟩
    have e4 : a.tmps[4]? = some (.pointer (some ⟨gb145, 0, none⟩)) := by rw [ha]; exact (putSel_off rfl).trans rfl
    replace ha := Aside0.mk ha
    have HB := Aside0.mk Q_HB
    have H145 := Aside0.mk Q_H145
    have H146 := Aside0.mk Q_H146
    have hc0 := H145.out.cell0
    have hc1 := H145.out.cell1
    refine value_ (w1 := w') (v := .agg #[.int .i64 0, .int .i64 0]) (by rfl) rfl ?_ ?_
    ·go_simp
     (try simp only [i64_w])
     try rfl
    refine hK.out _ _ ⟨(by rw [ha.out]; exact putSel_upk 0 hb_ rfl rfl rfl), Q_HB, Q_H145, Q_H146⟩
   refine steps_cons ?_ ?_
   ·rintro b a w' ⟨ha, Q_HB, Q_H145, Q_H146⟩ hb_ hon hoff
    refine ⟨_, rfl, fun K hK => ?_⟩
    have e5 : a.tmps[5]? = some (.pointer (some ⟨gb146, 0, none⟩)) := by rw [ha]; exact (putSel_off rfl).trans rfl
    replace ha := Aside0.mk ha
    have HB := Aside0.mk Q_HB
    have H145 := Aside0.mk Q_H145
    have H146 := Aside0.mk Q_H146
    have hc0 := H146.out.cell0
    have hc1 := H146.out.cell1
    refine value_ (w1 := w') (v := .agg #[.int .i64 0, .int .i64 0]) (by rfl) rfl ?_ ?_
    ·go_simp
     (try simp only [i64_w])
     try rfl
    refine hK.out _ _ ⟨(by rw [ha.out]; exact putSel_upk 1 hb_ rfl rfl rfl), Q_HB, Q_H145, Q_H146⟩
   refine steps_cons ?_ ?_
   ·rintro b a w' ⟨ha, Q_HB, Q_H145, Q_H146⟩ hb_ hon hoff
    refine ⟨_, rfl, fun K hK => ?_⟩
    have e6 : a.tmps[6]? = some (.int .i64 t147) := by rw [ha]; exact (putSel_not (hoff 5 (by kernel_rfl)) rfl).trans rfl
    replace ha := Aside0.mk ha
    have HB := Aside0.mk Q_HB
    have H145 := Aside0.mk Q_H145
    have H146 := Aside0.mk Q_H146
    refine value_ (w1 := w') (v := .int .i64 t147) (by rfl) rfl ?_ ?_
    ·go_simp
     (try simp only [i64_w])
     try rfl
    refine hK.out _ _ ⟨(by rw [ha.out]; exact putSel_upk 2 hb_ rfl rfl rfl), Q_HB, Q_H145, Q_H146⟩
   refine steps_cons ?_ ?_
   ·rintro b a w' ⟨ha, Q_HB, Q_H145, Q_H146⟩ hb_ hon hoff
    refine ⟨_, rfl, fun K hK => ?_⟩
    have e4 : a.tmps[4]? = some (.pointer (some ⟨gb145, 0, none⟩)) := by rw [ha]; exact (putSel_off rfl).trans rfl
    have e14 : a.tmps[14]? = some (.agg #[.int .i64 0, .int .i64 0]) := by rw [ha]; exact putSel_on (e := (0, 14, .agg #[.int .i64 0, .int .i64 0])) 0 rfl rfl (hon 0 (by kernel_rfl)) rfl
    replace ha := Aside0.mk ha
    have HB := Aside0.mk Q_HB
    have H145 := Aside0.mk Q_H145
    have H146 := Aside0.mk Q_H146
    have hc0 := H145.out.cell0
    have hc1 := H145.out.cell1
    have hf0 := H145.out.frozen0
    have hf1 := H145.out.frozen1
    refine skip_ (w1 := ?_) (by rfl) rfl ?_ ?_
    rotate_left
    ·go_simp
     rfl
    refine hK.out _ _ ⟨(by rw [ha.out]; exact putSel_none (v := undef) rfl), below_set (below_set HB.out GE145.out) GE145.out, H145.out.set2 _ _, box2_farW NB145_146.out (box2_farW NB145_146.out H146.out)⟩
   refine steps_cons ?_ ?_
   ·rintro b a w' ⟨ha, Q_HB, Q_H145, Q_H146⟩ hb_ hon hoff
    refine ⟨_, rfl, fun K hK => ?_⟩
    have e5 : a.tmps[5]? = some (.pointer (some ⟨gb146, 0, none⟩)) := by rw [ha]; exact (putSel_off rfl).trans rfl
    have e15 : a.tmps[15]? = some (.agg #[.int .i64 0, .int .i64 0]) := by rw [ha]; exact putSel_on (e := (1, 15, .agg #[.int .i64 0, .int .i64 0])) 1 rfl rfl (hon 1 (by kernel_rfl)) rfl
    replace ha := Aside0.mk ha
    have HB := Aside0.mk Q_HB
    have H145 := Aside0.mk Q_H145
    have H146 := Aside0.mk Q_H146
    have hc0 := H146.out.cell0
    have hc1 := H146.out.cell1
    have hf0 := H146.out.frozen0
    have hf1 := H146.out.frozen1
    refine skip_ (w1 := ?_) (by rfl) rfl ?_ ?_
    rotate_left
    ·go_simp
     rfl
    refine hK.out _ _ ⟨(by rw [ha.out]; exact putSel_none (v := undef) rfl), below_set (below_set HB.out GE146.out) GE146.out, box2_farW NB146_145.out (box2_farW NB146_145.out H145.out), H146.out.set2 _ _⟩
   refine steps_cons ?_ ?_
   ·rintro b a w' ⟨ha, Q_HB, Q_H145, Q_H146⟩ hb_ hon hoff
    refine ⟨_, rfl, fun K hK => ?_⟩
    have e16 : a.tmps[16]? = some (.int .i64 t147) := by rw [ha]; exact putSel_on (e := (2, 16, .int .i64 t147)) 2 rfl rfl (hon 2 (by kernel_rfl)) rfl
    replace ha := Aside0.mk ha
    have HB := Aside0.mk Q_HB
    have H145 := Aside0.mk Q_H145
    have H146 := Aside0.mk Q_H146
    refine value_ (w1 := w') (v := .int .i64 t147) (by rfl) rfl ?_ ?_
    ·go_simp
     (try simp only [i64_w])
     try rfl
    refine hK.out _ _ ⟨(by rw [ha.out]; exact putSel_upk 3 hb_ rfl rfl rfl), Q_HB, Q_H145, Q_H146⟩
   exact steps_nil
  ·rintro b a w' hall ⟨ha, Q_HB, Q_H145, Q_H146⟩
   clear H145 H146 HB
   have hb0_ := hall 0 (by kernel_rfl)
   have hb1_ := hall 1 (by kernel_rfl)
   have hb2_ := hall 2 (by kernel_rfl)
   have hb3_ := hall 3 (by kernel_rfl)
   have hb4_ := hall 4 (by kernel_rfl)
   have hb5_ := hall 5 (by kernel_rfl)
   subst ha
   simp only [putSel, hb0_, hb1_, hb2_, hb3_, hb4_, hb5_, if_true, Act.put, List.setIfInBounds_toArray, List.set_cons_zero, List.set_cons_succ]
   have HB := Aside0.mk Q_HB
   clear Q_HB
   have H145 := Aside0.mk Q_H145
   clear Q_H145
   have H146 := Aside0.mk Q_H146
   clear Q_H146
   clear hall hb0_ hb1_ hb2_ hb3_ hb4_ hb5_
   have BK145 := H145
   have BK146 := H146
   go_wp2
   refine bodyPost_ret (results_list (rs := [.cell 4 29, .cell 5 29, .tmp 6]) rfl (by simp) (.cell gb145 29 #[.int .i64 0, .int .i64 0] (0, 0) _ rfl (zb BK145) Try.underlying29 rfl (by kernel_rfl) (.cell gb146 29 #[.int .i64 0, .int .i64 0] (0, 0) _ rfl (zb BK146) Try.underlying29 rfl (by kernel_rfl) (.tmp .nil)))) rfl ?_
   exact ⟨ze, below_fin HBW.out zh⟩
end Go.Proofs.Ytccjefoejjnccaa.C
