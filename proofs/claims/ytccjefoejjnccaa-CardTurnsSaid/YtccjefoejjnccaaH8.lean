-- Written by a program of this session (wip/tools/myprint.py, over the kit's print).
import Derived.Test.YtccjefoejjnccaaH5
import Derived.Test.YtccjefoejjnccaaZ
namespace Go.Proofs.Ytccjefoejjnccaa.C
open Go.RowKit Go.Proofs.YtccjefoejjnccaaW.PrintWords Go.Proofs.YtccjefoejjnccaaW.PrintLast Go.Proofs.YtccjefoejjnccaaW.PrintMore
attribute [local go_sem] max2_int min2_int max_two min_two max_three min_three max_four min_four   -- for this text's walks alone
set_option linter.unusedVariables false
set_option linter.unusedSimpArgs false
/-- A call of a function value in an unordered region. -/
theorem goesV_ {P : Program} {ops : Array Oper} {Q : Exit → Act → World → Prop} {oi : Oper} {N : Option Tmp} {a : Act} {w : World} {K : Act → World → Prop} {f : FuncId} {fn : Func} {x : Operand} {first captured : Array Value} {as_ : Array Operand} {ts : Array TypeId} (hf : P.funcs[f]? = some fn) (hname : (fn.name == "runtime.NumGoroutine") = false) (hb : fn.body.isSome = true) (args : Array Value)
  (hw : Region.wanted oi (yielded ops a.tmps) = true) (hN : oi.dst = N) (hop : oi.op = .call { callee := .value x, args := as_, argTypes := ts }) (hv : a.eval x = .func (.func f) first captured) (hargs : first ++ as_.map a.eval ++ captured = args)
  (h : Calls P f args w fun e w' => ∃ v, e = .returned v ∧ K (a.put N v) w') : if Region.wanted oi (yielded ops a.tmps) = true then Oper.wp P oi a w K Q else K (a.put N undef) w := by
 refine call_ f args hw hN ?_ h
 have he := enters_ hf hname hb args w
 unfold execOp
 simp [hop, resolve, Deferred.ofValue, invoke, hv, hargs, he]
def card_lo.f (a0_0 : Int) (a0_1 : Int) : Option (Int) := some a0_0
set_option maxHeartbeats 8000000 in
set_option maxRecDepth 100000 in
theorem card_lo.calls (a0_0 : Int) (a0_1 : Int) (r : Int) (w : World) (h : card_lo.f a0_0 a0_1 = some r) :
  Calls Try.prog 80 #[.agg #[.int .i64 a0_0, .int .i64 a0_1]] w fun e w' => e = .returned (.int .i64 r) ∧ Below w.heap.size w w' := by
 have hu90 := Try.underlying90
 have HB := Aside0.mk (Below.refl w.heap.size w)
 have H : (some a0_0) = some r := h
 clear h
 obtain rfl := Option.some.inj H
 go_enter Try.func80, Try.ntmps80
 go_wp2_with (first | ((with_reducible refine gD 1 rfl ?_); refine zx 1 #[.int .i64 a0_0, .int .i64 a0_1] 90 ?_; intro gb101 hg w2 hbox hb; have BK101 := Aside0.mk (hbox); have GE101 := zG w hg; replace HB := zd hb; clear hb hbox hg; have hcz3_0 : w2.cell? ⟨gb101, 0, none⟩ = some (.int .i64 a0_0) := zy BK101 0; have hcz3_1 : w2.cell? ⟨gb101, 1, none⟩ = some (.int .i64 a0_1) := zy BK101 1; have hfz3_0 := blk_frozen BK101.out 0; have hfz3_1 := blk_frozen BK101.out 1))
 go_ret
 exact ⟨ze, zh⟩
def card_Known_eachLo.l0 : Nat → List (S55) → List (S92) → Int → Int → Option ((List (S55)))
 | 0, _, _, _, _ => none
 | k + 1, x5, x8, x9, x10 => if x10 < x9 then (if 0 ≤ x10 then (if x10 < (x8.length : Int) then ((card_lo.f ((rd_T92 x8 x10).f1.f0) ((rd_T92 x8 x10).f1.f1)).bind fun t104 => (if x5.length < 8796093022208 then (card_Known_eachLo.l0 k (x5 ++ [(⟨(rd_T92 x8 x10).f0, t104⟩ : S55)]) x8 x9 (wrap64 (x10 + 1))) else (none))) else (none)) else (none)) else (some x5)
def card_Known_eachLo.f (k : Nat) (l0 : List (S92)) : Option ((List (S55))) := card_Known_eachLo.l0 k ([] : List (S55)) l0 (l0.length : Int) 0
def card_Known_eachLo.T5 : Bool × List (List Nat × List Nat) := (true, [([], []), ([], []), ([1], [1]), ([], []), ([], []), ([4], [4]), ([3, 5], [3, 5]), ([2, 6], [2, 6]), ([7], [7]), ([0, 8, 6], [0, 8]), ([9, 9, 0, 1, 2, 3, 4, 5, 6, 7, 8, 9], [0, 9])])
def card_Known_eachLo.B5 : List Nat := [0, 0, 2, 0, 0, 16, 56, 126, 254, 511, 1023]
theorem card_Known_eachLo.tab5 : rtab .any (opsOf Try.f79 5) = card_Known_eachLo.T5 := by kernel_rfl
theorem card_Known_eachLo.bits5 : waitsOk card_Known_eachLo.T5.2 card_Known_eachLo.B5 = true := by kernel_rfl
set_option maxHeartbeats 8000000 in
set_option maxRecDepth 100000 in
theorem card_Known_eachLo.calls (k : Nat) (A0 : Option Addr) (c0 : Nat) (l0 : List (S92)) (r : List (S55)) (w : World) (hr0 : Kd.C k92 w A0 l0.length l0) (hc0 : l0.length ≤ c0) (h : card_Known_eachLo.f k l0 = some r) :
  Calls Try.prog 79 #[.slice A0 l0.length c0, .func (.func 80) #[] #[]] w fun e w' => ∃ v0_ : Value, e = .returned (v0_) ∧ Kd.R k55 55 w' w.heap.size (fun _ => True) v0_ r ∧ Below w.heap.size w w' := by
 have hu92 := Try.underlying92
 have hu90 := Try.underlying90
 have hu55 := Try.underlying55
 have HR0 := Aside0.mk hr0
 have HC0 := Aside0.mk hc0
 clear hr0 hc0
 have HB := Aside0.mk (Below.refl w.heap.size w)
 have H : (card_Known_eachLo.l0 k ([] : List (S55)) l0 (l0.length : Int) 0) = some r := h
 clear h
 have H' := Aside0.mk H
 clear H
 go_enter Try.func79, Try.ntmps79
 go_wp2
 go_loopg [5, 10] k (fun kq v5 v10 w' => ∃ (x5_1 : List (S55)) (x10_1 : Int), v10 = .int .i64 x10_1 ∧ Aside0 (card_Known_eachLo.l0 kq x5_1 l0 (l0.length : Int) x10_1 = some r) ∧ Aside0 (kq ≤ k) ∧ Aside0 (Kd.R k55 55 w' w.heap.size (fun _ => True) v5 x5_1) ∧ Aside0 (Below w.heap.size w w'))
 case atStart => exact ⟨(([] : List (S55))), (0), (by first | rfl | (simp; done) | (simp [*]; done)), H', ⟨Nat.le_refl _⟩, ⟨by first | exact Kd.R_nil _ _ _ _ _ | exact Kd.N_nil _ _ _ _ _ | exact Kd.V_nil _ _ _ _ _ | exact Kd.Q_nil _ _ _ _ _ | exact Kd.S_nil _ _ _ _ _⟩, ⟨zh⟩⟩
 case round =>
  clear H'
  try clear p2
  obtain ⟨x5_1, x10_1, rfl, HA, HK1, HO_5, HB⟩ := hrel
  cases gk with
  | zero => exact absurd HA.out (by simp [card_Known_eachLo.l0])
  | succ k1 =>
   have H := HA.out
   clear HA
   simp only [card_Known_eachLo.l0] at H
   by_cases c3 : x10_1 < (l0.length : Int)
   ·rw [if_pos c3] at H
    have c3b0 : decide (x10_1 < (l0.length : Int)) = true := decide_eq_true c3
    clear c3
    by_cases c4 : 0 ≤ x10_1
    ·rw [if_pos c4] at H
     have c4b0 : decide (0 ≤ x10_1) = true := decide_eq_true c4
     clear c4
     by_cases c5 : x10_1 < (l0.length : Int)
     ·rw [if_pos c5] at H
      have c5b0 : decide (x10_1 < (l0.length : Int)) = true := decide_eq_true c5
      clear c5
      replace H := zi H
      obtain ⟨t104, A60, H⟩ := H
      try dsimp only at H
      have A6 := Aside0.mk A60
      clear A60
      by_cases c7 : x5_1.length < 8796093022208
      ·rw [if_pos c7] at H
       have LMc7 := Aside0.mk c7
       clear c7
       obtain ⟨y105, hy105⟩ : ∃ y_ : List (S55), y_ = (x5_1 ++ [(⟨(rd_T92 l0 x10_1).f0, t104⟩ : S55)]) := ⟨_, rfl⟩
       replace H : (card_Known_eachLo.l0 k1 y105 l0 (l0.length : Int) (wrap64 (x10_1 + 1))) = some r := by first | (rw [hy105]; with_reducible exact H) | (have H2_ := (Option.bind_some _ _).symm.trans H; rw [hy105]; with_reducible exact H2_) | (have H2_ := (Option.bind_some _ _).symm.trans H; with_reducible exact H2_) | with_reducible exact H | (rw [hy105]; exact H) | exact H
       have Ny105 := Aside0.mk hy105
       clear hy105
       have H' := Aside0.mk H
       clear H
       have p102 : 0 ≤ (x10_1 : Int) := zp
       have q102 : x10_1 < (l0.length : Int) := zp
       obtain ⟨ad102, e102, hx102_0, hx102_1, hx102_2⟩ := at_T92 HR0.out x10_1 p102 q102
       cases e102
       replace hx102_0 := (HB.out.cell (World.block_lt_of_cell? w _ hx102_0)).trans hx102_0
       replace hx102_1 := (HB.out.cell (World.block_lt_of_cell? w _ hx102_1)).trans hx102_1
       replace hx102_2 := (HB.out.cell (World.block_lt_of_cell? w _ hx102_2)).trans hx102_2
       replace p102 := eq_true p102
       replace q102 := eq_true q102
       try go_wp2_with (first | ((with_reducible refine gD 7 rfl ?_); refine zx 7 #[.int .i64 0, .int .i64 0, .int .i64 0] 92 ?_; intro gb103 hg w8 hbox hb; replace HO_5 := zr HO_5 hb; have BK103 := Aside0.mk (hbox); have GE103 := zG w hg; replace HB := zd hb; clear hb hbox hg; have hcz9_0 : w8.cell? ⟨gb103, 0, none⟩ = some (.int .i64 0) := zy BK103 0; have hcz9_1 : w8.cell? ⟨gb103, 1, none⟩ = some (.int .i64 0) := zy BK103 1; have hcz9_2 : w8.cell? ⟨gb103, 2, none⟩ = some (.int .i64 0) := zy BK103 2; have hfz9_0 := blk_frozen BK103.out 0; have hfz9_1 := blk_frozen BK103.out 1; have hfz9_2 := blk_frozen BK103.out 2))
       have n0_ : Aside0 (Kd.R k55 55 (((w8.setCell ⟨gb103, 0, none⟩ (.int .i64 ((rd_T92 l0 x10_1).f0))).setCell ⟨gb103, 1, none⟩ (.int .i64 ((rd_T92 l0 x10_1).f1.f0))).setCell ⟨gb103, 2, none⟩ (.int .i64 ((rd_T92 l0 x10_1).f1.f1))) w.heap.size (fun _ => True) u5 x5_1) := ⟨by refine zl ?_; exact Kd.R_mono (Kd.R_far (p := ⟨gb103, 2, none⟩) (Kd.R_far (p := ⟨gb103, 1, none⟩) (Kd.R_far (p := ⟨gb103, 0, none⟩) (Kd.R_types HO_5.out BK103.out (by decide)) (fun _ hk => hk.2) (.int .i64 ((rd_T92 l0 x10_1).f0))) (fun _ hk => hk.2) (.int .i64 ((rd_T92 l0 x10_1).f1.f0))) (fun _ hk => hk.2) (.int .i64 ((rd_T92 l0 x10_1).f1.f1))) (fun _ hk => trivial)⟩
       have n1_ : Aside0 ((((w8.setCell ⟨gb103, 0, none⟩ (.int .i64 ((rd_T92 l0 x10_1).f0))).setCell ⟨gb103, 1, none⟩ (.int .i64 ((rd_T92 l0 x10_1).f1.f0))).setCell ⟨gb103, 2, none⟩ (.int .i64 ((rd_T92 l0 x10_1).f1.f1))).heap[gb103]? = some (.cells #[.int .i64 ((rd_T92 l0 x10_1).f0), .int .i64 ((rd_T92 l0 x10_1).f1.f0), .int .i64 ((rd_T92 l0 x10_1).f1.f1)] 92 (0, 0))) := ⟨by refine zm ?_; refine blk_put (cs := #[.int .i64 ((rd_T92 l0 x10_1).f0), .int .i64 ((rd_T92 l0 x10_1).f1.f0), .int .i64 0]) ?_ 2 _ rfl; refine zm ?_; refine blk_put (cs := #[.int .i64 ((rd_T92 l0 x10_1).f0), .int .i64 0, .int .i64 0]) ?_ 1 _ rfl; refine zm ?_; refine blk_put (cs := #[.int .i64 0, .int .i64 0, .int .i64 0]) ?_ 0 _ rfl; refine zm ?_; exact BK103.out⟩
       have n2_ : Aside0 (Below w.heap.size w (((w8.setCell ⟨gb103, 0, none⟩ (.int .i64 ((rd_T92 l0 x10_1).f0))).setCell ⟨gb103, 1, none⟩ (.int .i64 ((rd_T92 l0 x10_1).f1.f0))).setCell ⟨gb103, 2, none⟩ (.int .i64 ((rd_T92 l0 x10_1).f1.f1)))) := ⟨zh⟩
       (try clear HO_5)
       (try clear BK103)
       (try clear HB)
       generalize (((w8.setCell ⟨gb103, 0, none⟩ (.int .i64 ((rd_T92 l0 x10_1).f0))).setCell ⟨gb103, 1, none⟩ (.int .i64 ((rd_T92 l0 x10_1).f1.f0))).setCell ⟨gb103, 2, none⟩ (.int .i64 ((rd_T92 l0 x10_1).f1.f1))) = w10 at n0_ n1_ n2_ ⊢
       have HO_5 := n0_
       have BK103 := n1_
       have HB := n2_
       clear n0_ n1_ n2_
       replace HO_5 := Aside0.mk (Kd.R_drew HO_5.out)
       replace BK103 := Aside0.mk (blk_drew BK103.out)
       replace HB := Aside0.mk (below_drew1 HB.out)
       refine start_ (n := 11) (S := fun w' => w'.cell? ⟨gb103, 0, none⟩ = some (.int .i64 ((rd_T92 l0 x10_1).f0)) ∧ w'.cell? ⟨gb103, 1, none⟩ = some (.int .i64 ((rd_T92 l0 x10_1).f1.f0)) ∧ w'.cell? ⟨gb103, 2, none⟩ = some (.int .i64 ((rd_T92 l0 x10_1).f1.f1))) (ds := []) #[false, false, false, false, false, false, false, false, false, false, false] (by kernel_rfl) rfl rfl ⟨zy BK103 0, zy BK103 1, zy BK103 2⟩ (fun hHeld => ?_); refine with_tabW card_Known_eachLo.tab5 card_Known_eachLo.bits5 (fun HT_ HW_ => ?_)
       generalize w10.drew = w11 at HO_5 BK103 HB hHeld ⊢
       refine pq HT_ 0 14 11 1 ?_
       refine pq HT_ 1 15 11 3 ?_
       refine pq HT_ 3 17 11 11 ?_
       refine pq HT_ 4 18 11 27 ?_
       refine take_ (i := 2) (N := some 16) (v := ?_) (a' := ?_) #[true, true, true, true, true, false, false, false, false, false, false] rfl rfl (take_ofW HT_.out HW_.out (by kernel_rfl)) (fun _ _ _ h => h) (Or.inl ⟨by rfl, ?_⟩) hHeld ?_ ?_
       rotate_left
       ·rintro w' ⟨s0, s1, s2⟩
        go_simp
        with_reducible rfl
       rotate_left
       ·simp only [Act.put, List.setIfInBounds_toArray, List.set_cons_zero, List.set_cons_succ, i64_w, i32_w]
        rfl
       refine take_ (i := 5) (N := some 19) (v := ?_) (a' := ?_) #[true, true, true, true, true, true, false, false, false, false, false] rfl rfl (take_ofW HT_.out HW_.out (by kernel_rfl)) (fun _ _ _ h => h) (Or.inl ⟨by rfl, ?_⟩) hHeld ?_ ?_
       rotate_left
       ·rintro w' ⟨s0, s1, s2⟩
        go_simp
        with_reducible rfl
       rotate_left
       ·simp only [Act.put, List.setIfInBounds_toArray, List.set_cons_zero, List.set_cons_succ, i64_w, i32_w]
        rfl
       refine one_ (i := 6) (N := some 20) #[true, true, true, true, true, true, true, false, false, false, false] rfl rfl (one_of HT_.out (by kernel_rfl)) (by decide) (fun K hK => ?_)
       refine goesV_ Try.func80 (by kernel_rfl) rfl #[.agg #[.int .i64 ((rd_T92 l0 x10_1).f1.f0), .int .i64 ((rd_T92 l0 x10_1).f1.f1)]] (by rfl) rfl rfl (by rfl) (by rw [Array.empty_append, Array.append_empty]; simp only [List.map_toArray, List.map_cons, List.map_nil]; rfl) ?_
       with_reducible refine (card_lo.calls ((rd_T92 l0 x10_1).f1.f0) ((rd_T92 l0 x10_1).f1.f1) t104 _ A6.out).mono ?_
       rintro e w12 ⟨rfl, hb⟩
       refine ⟨_, rfl, ?_⟩
       replace HO_5 := zr HO_5 hb
       replace BK103 := zk BK103 hb
       replace HB := zd hb
       (try clear hb)
       (try clear hb2)
       (try clear hk)
       (try clear hi)
       refine hK.out _ _ ⟨zy BK103 0, zy BK103 1, zy BK103 2⟩ (fun hHeld => ?_)
       clear hK K
       refine norm_ (a' := ?_) ?_ ?_
       rotate_left
       ·show Act.put _ (some 20) _ = _
        simp only [Act.put, List.setIfInBounds_toArray, List.set_cons_zero, List.set_cons_succ, i64_w, i32_w]
        rfl
       refine pq HT_ 7 21 11 255 ?_
       refine one_ (i := 8) (N := some 22) #[true, true, true, true, true, true, true, true, true, false, false] rfl rfl (one_of HT_.out (by kernel_rfl)) (by decide) (fun K hK => ?_)
       refine value_ (w1 := ?_) (v := ?_) (by rfl) rfl ?_ ?_
       rotate_left 2
       ·go_simp
        constructor
        ·rfl
        ·rfl
       refine hK.out _ _ ⟨(blk_cell (blk_alloc BK103.out _) 0).trans rfl, (blk_cell (blk_alloc BK103.out _) 1).trans rfl, (blk_cell (blk_alloc BK103.out _) 2).trans rfl⟩ (fun hHeld => ?_)
       clear hK K
       refine norm_ (a' := ?_) ?_ ?_
       rotate_left
       ·show Act.put _ (some 22) _ = _
        simp only [Act.put, List.setIfInBounds_toArray, List.set_cons_zero, List.set_cons_succ, i64_w, i32_w]
        rfl
       refine one_ (i := 9) (N := some 23) #[true, true, true, true, true, true, true, true, true, true, false] rfl rfl (one_of HT_.out (by kernel_rfl)) (by decide) (fun K hK => ?_)
       refine Kd.R_append_step k55 (w0 := w) w.heap.size (by rfl) (.tmp 14) (.tmp 22) 23 55 (.agg #[(.int .i64 0), (.int .i64 0)]) 16 rfl Try.underlying23 info55 rfl (by decide) (by omega) u5 x5_1 (⟨(rd_T92 l0 x10_1).f0, t104⟩ : S55) [.int .i64 ((rd_T92 l0 x10_1).f0), .int .i64 t104] (fun _ => True) (fun _ => False) rfl rfl ?aP (fun _ hk => hk.elim) ?aF ?aO ?aB ?aS ?aL ?_
       (case aP => exact k55_mkM _ _ _ (⟨(rd_T92 l0 x10_1).f0, t104⟩ : S55))
       (case aB => exact zh)
       (case aF => exact (fun _ _ => trivial))
       (case aO => exact (zo HO_5.out))
       (case aS => exact (below_size zh))
       (case aL => have := LMc7.out; omega)
       intro v106 w13 ho hb hg hat
       rw [← Ny105.out] at ho
       replace BK103 := Aside0.mk (blk_grown (g := gb103) (o := .cells #[.int .i64 ((rd_T92 l0 x10_1).f0), .int .i64 ((rd_T92 l0 x10_1).f1.f0), .int .i64 ((rd_T92 l0 x10_1).f1.f1)] 92 (0, 0)) (zb BK103) hg (Kd.R_ne HO_5.out BK103.out (by decide)))
       replace HB := Aside0.mk (hb)
       have HO107 := Aside0.mk (ho)
       clear HO_5
       clear ho hb hg hat
       refine hK.out _ _ ⟨zy BK103 0, zy BK103 1, zy BK103 2⟩ (fun hHeld => ?_)
       clear hK K
       refine norm_ (a' := ?_) ?_ ?_
       rotate_left
       ·show Act.put _ (some 23) _ = _
        simp only [Act.put, List.setIfInBounds_toArray, List.set_cons_zero, List.set_cons_succ, i64_w, i32_w]
        rfl
       refine pq HT_ 10 5 11 2047 ?_
       refine done_ (done_of HT_.out (by kernel_rfl)) ?_
       try go_wp2
       go_roundg k1
       case measure => have := HK1.out; omega
       case rel => exact ⟨(y105), (wrap64 (x10_1 + 1)), (by first | rfl | (simp; done) | (simp [*]; done)), H', ⟨by have := HK1.out; omega⟩, ⟨by refine zl ?_; exact HO107.out⟩, ⟨zh⟩⟩
      ·rw [if_neg c7] at H
       exact absurd H (by simp)
     ·rw [if_neg c5] at H
      exact absurd H (by simp)
    ·rw [if_neg c4] at H
     exact absurd H (by simp)
   ·rw [if_neg c3] at H
    have c3b0 : decide (x10_1 < (l0.length : Int)) = false := decide_eq_false c3
    clear c3
    obtain rfl := Option.some.inj H
    go_wp2
    go_ret
    exact ⟨_, ze, by refine zl ?_; exact HO_5.out, zh⟩
def card_hi.f (a0_0 : Int) (a0_1 : Int) : Option (Int) := some a0_1
set_option maxHeartbeats 8000000 in
set_option maxRecDepth 100000 in
theorem card_hi.calls (a0_0 : Int) (a0_1 : Int) (r : Int) (w : World) (h : card_hi.f a0_0 a0_1 = some r) :
  Calls Try.prog 81 #[.agg #[.int .i64 a0_0, .int .i64 a0_1]] w fun e w' => e = .returned (.int .i64 r) ∧ Below w.heap.size w w' := by
 have hu90 := Try.underlying90
 have HB := Aside0.mk (Below.refl w.heap.size w)
 have H : (some a0_1) = some r := h
 clear h
 obtain rfl := Option.some.inj H
 go_enter Try.func81, Try.ntmps81
 go_wp2_with (first | ((with_reducible refine gD 1 rfl ?_); refine zx 1 #[.int .i64 a0_0, .int .i64 a0_1] 90 ?_; intro gb101 hg w2 hbox hb; have BK101 := Aside0.mk (hbox); have GE101 := zG w hg; replace HB := zd hb; clear hb hbox hg; have hcz3_0 : w2.cell? ⟨gb101, 0, none⟩ = some (.int .i64 a0_0) := zy BK101 0; have hcz3_1 : w2.cell? ⟨gb101, 1, none⟩ = some (.int .i64 a0_1) := zy BK101 1; have hfz3_0 := blk_frozen BK101.out 0; have hfz3_1 := blk_frozen BK101.out 1))
 go_ret
 exact ⟨ze, zh⟩
def card_Known_eachHi.l0 : Nat → List (S55) → List (S92) → Int → Int → Option ((List (S55)))
 | 0, _, _, _, _ => none
 | k + 1, x5, x8, x9, x10 => if x10 < x9 then (if 0 ≤ x10 then (if x10 < (x8.length : Int) then ((card_hi.f ((rd_T92 x8 x10).f1.f0) ((rd_T92 x8 x10).f1.f1)).bind fun t104 => (if x5.length < 8796093022208 then (card_Known_eachHi.l0 k (x5 ++ [(⟨(rd_T92 x8 x10).f0, t104⟩ : S55)]) x8 x9 (wrap64 (x10 + 1))) else (none))) else (none)) else (none)) else (some x5)
def card_Known_eachHi.f (k : Nat) (l0 : List (S92)) : Option ((List (S55))) := card_Known_eachHi.l0 k ([] : List (S55)) l0 (l0.length : Int) 0
def card_Known_eachHi.T5 : Bool × List (List Nat × List Nat) := (true, [([], []), ([], []), ([1], [1]), ([], []), ([], []), ([4], [4]), ([3, 5], [3, 5]), ([2, 6], [2, 6]), ([7], [7]), ([0, 8, 6], [0, 8]), ([9, 9, 0, 1, 2, 3, 4, 5, 6, 7, 8, 9], [0, 9])])
def card_Known_eachHi.B5 : List Nat := [0, 0, 2, 0, 0, 16, 56, 126, 254, 511, 1023]
theorem card_Known_eachHi.tab5 : rtab .any (opsOf Try.f79 5) = card_Known_eachHi.T5 := by kernel_rfl
theorem card_Known_eachHi.bits5 : waitsOk card_Known_eachHi.T5.2 card_Known_eachHi.B5 = true := by kernel_rfl
set_option maxHeartbeats 8000000 in
set_option maxRecDepth 100000 in
theorem card_Known_eachHi.calls (k : Nat) (A0 : Option Addr) (c0 : Nat) (l0 : List (S92)) (r : List (S55)) (w : World) (hr0 : Kd.C k92 w A0 l0.length l0) (hc0 : l0.length ≤ c0) (h : card_Known_eachHi.f k l0 = some r) :
  Calls Try.prog 79 #[.slice A0 l0.length c0, .func (.func 81) #[] #[]] w fun e w' => ∃ v0_ : Value, e = .returned (v0_) ∧ Kd.R k55 55 w' w.heap.size (fun _ => True) v0_ r ∧ Below w.heap.size w w' := by
 have hu92 := Try.underlying92
 have hu90 := Try.underlying90
 have hu55 := Try.underlying55
 have HR0 := Aside0.mk hr0
 have HC0 := Aside0.mk hc0
 clear hr0 hc0
 have HB := Aside0.mk (Below.refl w.heap.size w)
 have H : (card_Known_eachHi.l0 k ([] : List (S55)) l0 (l0.length : Int) 0) = some r := h
 clear h
 have H' := Aside0.mk H
 clear H
 go_enter Try.func79, Try.ntmps79
 go_wp2
 go_loopg [5, 10] k (fun kq v5 v10 w' => ∃ (x5_1 : List (S55)) (x10_1 : Int), v10 = .int .i64 x10_1 ∧ Aside0 (card_Known_eachHi.l0 kq x5_1 l0 (l0.length : Int) x10_1 = some r) ∧ Aside0 (kq ≤ k) ∧ Aside0 (Kd.R k55 55 w' w.heap.size (fun _ => True) v5 x5_1) ∧ Aside0 (Below w.heap.size w w'))
 case atStart => exact ⟨(([] : List (S55))), (0), (by first | rfl | (simp; done) | (simp [*]; done)), H', ⟨Nat.le_refl _⟩, ⟨by first | exact Kd.R_nil _ _ _ _ _ | exact Kd.N_nil _ _ _ _ _ | exact Kd.V_nil _ _ _ _ _ | exact Kd.Q_nil _ _ _ _ _ | exact Kd.S_nil _ _ _ _ _⟩, ⟨zh⟩⟩
 case round =>
  clear H'
  try clear p2
  obtain ⟨x5_1, x10_1, rfl, HA, HK1, HO_5, HB⟩ := hrel
  cases gk with
  | zero => exact absurd HA.out (by simp [card_Known_eachHi.l0])
  | succ k1 =>
   have H := HA.out
   clear HA
   simp only [card_Known_eachHi.l0] at H
   by_cases c3 : x10_1 < (l0.length : Int)
   ·rw [if_pos c3] at H
    have c3b0 : decide (x10_1 < (l0.length : Int)) = true := decide_eq_true c3
    clear c3
    by_cases c4 : 0 ≤ x10_1
    ·rw [if_pos c4] at H
     have c4b0 : decide (0 ≤ x10_1) = true := decide_eq_true c4
     clear c4
     by_cases c5 : x10_1 < (l0.length : Int)
     ·rw [if_pos c5] at H
      have c5b0 : decide (x10_1 < (l0.length : Int)) = true := decide_eq_true c5
      clear c5
      replace H := zi H
      obtain ⟨t104, A60, H⟩ := H
      try dsimp only at H
      have A6 := Aside0.mk A60
      clear A60
      by_cases c7 : x5_1.length < 8796093022208
      ·rw [if_pos c7] at H
       have LMc7 := Aside0.mk c7
       clear c7
       obtain ⟨y105, hy105⟩ : ∃ y_ : List (S55), y_ = (x5_1 ++ [(⟨(rd_T92 l0 x10_1).f0, t104⟩ : S55)]) := ⟨_, rfl⟩
       replace H : (card_Known_eachHi.l0 k1 y105 l0 (l0.length : Int) (wrap64 (x10_1 + 1))) = some r := by first | (rw [hy105]; with_reducible exact H) | (have H2_ := (Option.bind_some _ _).symm.trans H; rw [hy105]; with_reducible exact H2_) | (have H2_ := (Option.bind_some _ _).symm.trans H; with_reducible exact H2_) | with_reducible exact H | (rw [hy105]; exact H) | exact H
       have Ny105 := Aside0.mk hy105
       clear hy105
       have H' := Aside0.mk H
       clear H
       have p102 : 0 ≤ (x10_1 : Int) := zp
       have q102 : x10_1 < (l0.length : Int) := zp
       obtain ⟨ad102, e102, hx102_0, hx102_1, hx102_2⟩ := at_T92 HR0.out x10_1 p102 q102
       cases e102
       replace hx102_0 := (HB.out.cell (World.block_lt_of_cell? w _ hx102_0)).trans hx102_0
       replace hx102_1 := (HB.out.cell (World.block_lt_of_cell? w _ hx102_1)).trans hx102_1
       replace hx102_2 := (HB.out.cell (World.block_lt_of_cell? w _ hx102_2)).trans hx102_2
       replace p102 := eq_true p102
       replace q102 := eq_true q102
       try go_wp2_with (first | ((with_reducible refine gD 7 rfl ?_); refine zx 7 #[.int .i64 0, .int .i64 0, .int .i64 0] 92 ?_; intro gb103 hg w8 hbox hb; replace HO_5 := zr HO_5 hb; have BK103 := Aside0.mk (hbox); have GE103 := zG w hg; replace HB := zd hb; clear hb hbox hg; have hcz9_0 : w8.cell? ⟨gb103, 0, none⟩ = some (.int .i64 0) := zy BK103 0; have hcz9_1 : w8.cell? ⟨gb103, 1, none⟩ = some (.int .i64 0) := zy BK103 1; have hcz9_2 : w8.cell? ⟨gb103, 2, none⟩ = some (.int .i64 0) := zy BK103 2; have hfz9_0 := blk_frozen BK103.out 0; have hfz9_1 := blk_frozen BK103.out 1; have hfz9_2 := blk_frozen BK103.out 2))
       have n0_ : Aside0 (Kd.R k55 55 (((w8.setCell ⟨gb103, 0, none⟩ (.int .i64 ((rd_T92 l0 x10_1).f0))).setCell ⟨gb103, 1, none⟩ (.int .i64 ((rd_T92 l0 x10_1).f1.f0))).setCell ⟨gb103, 2, none⟩ (.int .i64 ((rd_T92 l0 x10_1).f1.f1))) w.heap.size (fun _ => True) u5 x5_1) := ⟨by refine zl ?_; exact Kd.R_mono (Kd.R_far (p := ⟨gb103, 2, none⟩) (Kd.R_far (p := ⟨gb103, 1, none⟩) (Kd.R_far (p := ⟨gb103, 0, none⟩) (Kd.R_types HO_5.out BK103.out (by decide)) (fun _ hk => hk.2) (.int .i64 ((rd_T92 l0 x10_1).f0))) (fun _ hk => hk.2) (.int .i64 ((rd_T92 l0 x10_1).f1.f0))) (fun _ hk => hk.2) (.int .i64 ((rd_T92 l0 x10_1).f1.f1))) (fun _ hk => trivial)⟩
       have n1_ : Aside0 ((((w8.setCell ⟨gb103, 0, none⟩ (.int .i64 ((rd_T92 l0 x10_1).f0))).setCell ⟨gb103, 1, none⟩ (.int .i64 ((rd_T92 l0 x10_1).f1.f0))).setCell ⟨gb103, 2, none⟩ (.int .i64 ((rd_T92 l0 x10_1).f1.f1))).heap[gb103]? = some (.cells #[.int .i64 ((rd_T92 l0 x10_1).f0), .int .i64 ((rd_T92 l0 x10_1).f1.f0), .int .i64 ((rd_T92 l0 x10_1).f1.f1)] 92 (0, 0))) := ⟨by refine zm ?_; refine blk_put (cs := #[.int .i64 ((rd_T92 l0 x10_1).f0), .int .i64 ((rd_T92 l0 x10_1).f1.f0), .int .i64 0]) ?_ 2 _ rfl; refine zm ?_; refine blk_put (cs := #[.int .i64 ((rd_T92 l0 x10_1).f0), .int .i64 0, .int .i64 0]) ?_ 1 _ rfl; refine zm ?_; refine blk_put (cs := #[.int .i64 0, .int .i64 0, .int .i64 0]) ?_ 0 _ rfl; refine zm ?_; exact BK103.out⟩
       have n2_ : Aside0 (Below w.heap.size w (((w8.setCell ⟨gb103, 0, none⟩ (.int .i64 ((rd_T92 l0 x10_1).f0))).setCell ⟨gb103, 1, none⟩ (.int .i64 ((rd_T92 l0 x10_1).f1.f0))).setCell ⟨gb103, 2, none⟩ (.int .i64 ((rd_T92 l0 x10_1).f1.f1)))) := ⟨zh⟩
       (try clear HO_5)
       (try clear BK103)
       (try clear HB)
       generalize (((w8.setCell ⟨gb103, 0, none⟩ (.int .i64 ((rd_T92 l0 x10_1).f0))).setCell ⟨gb103, 1, none⟩ (.int .i64 ((rd_T92 l0 x10_1).f1.f0))).setCell ⟨gb103, 2, none⟩ (.int .i64 ((rd_T92 l0 x10_1).f1.f1))) = w10 at n0_ n1_ n2_ ⊢
       have HO_5 := n0_
       have BK103 := n1_
       have HB := n2_
       clear n0_ n1_ n2_
       replace HO_5 := Aside0.mk (Kd.R_drew HO_5.out)
       replace BK103 := Aside0.mk (blk_drew BK103.out)
       replace HB := Aside0.mk (below_drew1 HB.out)
       refine start_ (n := 11) (S := fun w' => w'.cell? ⟨gb103, 0, none⟩ = some (.int .i64 ((rd_T92 l0 x10_1).f0)) ∧ w'.cell? ⟨gb103, 1, none⟩ = some (.int .i64 ((rd_T92 l0 x10_1).f1.f0)) ∧ w'.cell? ⟨gb103, 2, none⟩ = some (.int .i64 ((rd_T92 l0 x10_1).f1.f1))) (ds := []) #[false, false, false, false, false, false, false, false, false, false, false] (by kernel_rfl) rfl rfl ⟨zy BK103 0, zy BK103 1, zy BK103 2⟩ (fun hHeld => ?_); refine with_tabW card_Known_eachHi.tab5 card_Known_eachHi.bits5 (fun HT_ HW_ => ?_)
       generalize w10.drew = w11 at HO_5 BK103 HB hHeld ⊢
       refine pq HT_ 0 14 11 1 ?_
       refine pq HT_ 1 15 11 3 ?_
       refine pq HT_ 3 17 11 11 ?_
       refine pq HT_ 4 18 11 27 ?_
       refine take_ (i := 2) (N := some 16) (v := ?_) (a' := ?_) #[true, true, true, true, true, false, false, false, false, false, false] rfl rfl (take_ofW HT_.out HW_.out (by kernel_rfl)) (fun _ _ _ h => h) (Or.inl ⟨by rfl, ?_⟩) hHeld ?_ ?_
       rotate_left
       ·rintro w' ⟨s0, s1, s2⟩
        go_simp
        with_reducible rfl
       rotate_left
       ·simp only [Act.put, List.setIfInBounds_toArray, List.set_cons_zero, List.set_cons_succ, i64_w, i32_w]
        rfl
       refine take_ (i := 5) (N := some 19) (v := ?_) (a' := ?_) #[true, true, true, true, true, true, false, false, false, false, false] rfl rfl (take_ofW HT_.out HW_.out (by kernel_rfl)) (fun _ _ _ h => h) (Or.inl ⟨by rfl, ?_⟩) hHeld ?_ ?_
       rotate_left
       ·rintro w' ⟨s0, s1, s2⟩
        go_simp
        with_reducible rfl
       rotate_left
       ·simp only [Act.put, List.setIfInBounds_toArray, List.set_cons_zero, List.set_cons_succ, i64_w, i32_w]
        rfl
       refine one_ (i := 6) (N := some 20) #[true, true, true, true, true, true, true, false, false, false, false] rfl rfl (one_of HT_.out (by kernel_rfl)) (by decide) (fun K hK => ?_)
       refine goesV_ Try.func81 (by kernel_rfl) rfl #[.agg #[.int .i64 ((rd_T92 l0 x10_1).f1.f0), .int .i64 ((rd_T92 l0 x10_1).f1.f1)]] (by rfl) rfl rfl (by rfl) (by rw [Array.empty_append, Array.append_empty]; simp only [List.map_toArray, List.map_cons, List.map_nil]; rfl) ?_
       with_reducible refine (card_hi.calls ((rd_T92 l0 x10_1).f1.f0) ((rd_T92 l0 x10_1).f1.f1) t104 _ A6.out).mono ?_
       rintro e w12 ⟨rfl, hb⟩
       refine ⟨_, rfl, ?_⟩
       replace HO_5 := zr HO_5 hb
       replace BK103 := zk BK103 hb
       replace HB := zd hb
       (try clear hb)
       (try clear hb2)
       (try clear hk)
       (try clear hi)
       refine hK.out _ _ ⟨zy BK103 0, zy BK103 1, zy BK103 2⟩ (fun hHeld => ?_)
       clear hK K
       refine norm_ (a' := ?_) ?_ ?_
       rotate_left
       ·show Act.put _ (some 20) _ = _
        simp only [Act.put, List.setIfInBounds_toArray, List.set_cons_zero, List.set_cons_succ, i64_w, i32_w]
        rfl
       refine pq HT_ 7 21 11 255 ?_
       refine one_ (i := 8) (N := some 22) #[true, true, true, true, true, true, true, true, true, false, false] rfl rfl (one_of HT_.out (by kernel_rfl)) (by decide) (fun K hK => ?_)
       refine value_ (w1 := ?_) (v := ?_) (by rfl) rfl ?_ ?_
       rotate_left 2
       ·go_simp
        constructor
        ·rfl
        ·rfl
       refine hK.out _ _ ⟨(blk_cell (blk_alloc BK103.out _) 0).trans rfl, (blk_cell (blk_alloc BK103.out _) 1).trans rfl, (blk_cell (blk_alloc BK103.out _) 2).trans rfl⟩ (fun hHeld => ?_)
       clear hK K
       refine norm_ (a' := ?_) ?_ ?_
       rotate_left
       ·show Act.put _ (some 22) _ = _
        simp only [Act.put, List.setIfInBounds_toArray, List.set_cons_zero, List.set_cons_succ, i64_w, i32_w]
        rfl
       refine one_ (i := 9) (N := some 23) #[true, true, true, true, true, true, true, true, true, true, false] rfl rfl (one_of HT_.out (by kernel_rfl)) (by decide) (fun K hK => ?_)
       refine Kd.R_append_step k55 (w0 := w) w.heap.size (by rfl) (.tmp 14) (.tmp 22) 23 55 (.agg #[(.int .i64 0), (.int .i64 0)]) 16 rfl Try.underlying23 info55 rfl (by decide) (by omega) u5 x5_1 (⟨(rd_T92 l0 x10_1).f0, t104⟩ : S55) [.int .i64 ((rd_T92 l0 x10_1).f0), .int .i64 t104] (fun _ => True) (fun _ => False) rfl rfl ?aP (fun _ hk => hk.elim) ?aF ?aO ?aB ?aS ?aL ?_
       (case aP => exact k55_mkM _ _ _ (⟨(rd_T92 l0 x10_1).f0, t104⟩ : S55))
       (case aB => exact zh)
       (case aF => exact (fun _ _ => trivial))
       (case aO => exact (zo HO_5.out))
       (case aS => exact (below_size zh))
       (case aL => have := LMc7.out; omega)
       intro v106 w13 ho hb hg hat
       rw [← Ny105.out] at ho
       replace BK103 := Aside0.mk (blk_grown (g := gb103) (o := .cells #[.int .i64 ((rd_T92 l0 x10_1).f0), .int .i64 ((rd_T92 l0 x10_1).f1.f0), .int .i64 ((rd_T92 l0 x10_1).f1.f1)] 92 (0, 0)) (zb BK103) hg (Kd.R_ne HO_5.out BK103.out (by decide)))
       replace HB := Aside0.mk (hb)
       have HO107 := Aside0.mk (ho)
       clear HO_5
       clear ho hb hg hat
       refine hK.out _ _ ⟨zy BK103 0, zy BK103 1, zy BK103 2⟩ (fun hHeld => ?_)
       clear hK K
       refine norm_ (a' := ?_) ?_ ?_
       rotate_left
       ·show Act.put _ (some 23) _ = _
        simp only [Act.put, List.setIfInBounds_toArray, List.set_cons_zero, List.set_cons_succ, i64_w, i32_w]
        rfl
       refine pq HT_ 10 5 11 2047 ?_
       refine done_ (done_of HT_.out (by kernel_rfl)) ?_
       try go_wp2
       go_roundg k1
       case measure => have := HK1.out; omega
       case rel => exact ⟨(y105), (wrap64 (x10_1 + 1)), (by first | rfl | (simp; done) | (simp [*]; done)), H', ⟨by have := HK1.out; omega⟩, ⟨by refine zl ?_; exact HO107.out⟩, ⟨zh⟩⟩
      ·rw [if_neg c7] at H
       exact absurd H (by simp)
     ·rw [if_neg c5] at H
      exact absurd H (by simp)
    ·rw [if_neg c4] at H
     exact absurd H (by simp)
   ·rw [if_neg c3] at H
    have c3b0 : decide (x10_1 < (l0.length : Int)) = false := decide_eq_false c3
    clear c3
    obtain rfl := Option.some.inj H
    go_wp2
    go_ret
    exact ⟨_, ze, by refine zl ?_; exact HO_5.out, zh⟩
end Go.Proofs.Ytccjefoejjnccaa.C
