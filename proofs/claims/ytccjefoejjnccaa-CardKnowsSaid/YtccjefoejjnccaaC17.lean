-- Written by a program of this session (wip/tools/myprint.py, over the kit's print).
import Derived.Test.YtccjefoejjnccaaC0
import Derived.Test.YtccjefoejjnccaaC8
import Derived.Test.YtccjefoejjnccaaZ
namespace Go.Proofs.Ytccjefoejjnccaa.C
open Go.RowKit Go.Proofs.YtccjefoejjnccaaW.PrintWords Go.Proofs.YtccjefoejjnccaaW.PrintLast Go.Proofs.YtccjefoejjnccaaW.PrintMore
attribute [local go_sem] max2_int min2_int max_two min_two max_three min_three max_four min_four   -- for this text's walks alone
set_option linter.unusedVariables false
set_option linter.unusedSimpArgs false
def agonicref05_end.l0 : Nat → List (S124) → Bool → List (S54) → Int → Option ((List (S54)))
 | 0, _, _, _, _ => none
 | k + 1, x0, x1, x5, x6 => if x6 < (x0.length : Int) then (if 0 ≤ x6 then (if x1 = true then (if x5.length < 8796093022208 then (agonicref05_end.l0 k x0 x1 (x5 ++ [(⟨(rd_T124 x0 x6).f0, (rd_T124 x0 x6).f1.f1⟩ : S54)]) (wrap64 (x6 + 1))) else (none)) else (if x5.length < 8796093022208 then (agonicref05_end.l0 k x0 x1 (x5 ++ [(⟨(rd_T124 x0 x6).f0, (rd_T124 x0 x6).f1.f0⟩ : S54)]) (wrap64 (x6 + 1))) else (none))) else (none)) else (some x5)
def agonicref05_end.f (k : Nat) (l0 : List (S124)) (a1 : Bool) : Option ((List (S54))) := agonicref05_end.l0 k l0 a1 ([] : List (S54)) 0
def agonicref05_end.T5 : Bool × List (List Nat × List Nat) := (true, [([], []), ([], []), ([0, 1], [0, 1]), ([2], [2]), ([3], [3]), ([], []), ([], []), ([5, 6], [5, 6]), ([7], [7]), ([8], [8]), ([9], [9]), ([4, 10], [4, 10]), ([], []), ([12, 11, 0, 1, 2, 3, 4, 5, 6, 7, 8, 9, 10, 11, 12], [11, 12])])
def agonicref05_end.B5 : List Nat := [0, 0, 3, 7, 15, 0, 0, 96, 224, 480, 992, 2047, 0, 8191]
theorem agonicref05_end.tab5 : rtab .any (opsOf Try.f85 5) = agonicref05_end.T5 := by kernel_rfl
theorem agonicref05_end.bits5 : waitsOk agonicref05_end.T5.2 agonicref05_end.B5 = true := by kernel_rfl
set_option maxHeartbeats 8000000 in
set_option maxRecDepth 100000 in
theorem agonicref05_end.calls (k : Nat) (A0 : Option Addr) (c0 : Nat) (l0 : List (S124)) (a1 : Bool) (r : List (S54)) (w : World) (hr0 : Kd.C k124 w A0 l0.length l0) (hc0 : l0.length ≤ c0) (h : agonicref05_end.f k l0 a1 = some r) :
  Calls Try.prog 85 #[.slice A0 l0.length c0, .bool a1] w fun e w' => ∃ v0_ : Value, e = .returned (v0_) ∧ Kd.R k54 54 w' w.heap.size (fun _ => True) v0_ r ∧ Below w.heap.size w w' := by
 have hu54 := Try.underlying54
 have HR0 := Aside0.mk hr0
 have HC0 := Aside0.mk hc0
 clear hr0 hc0
 have HB := Aside0.mk (Below.refl w.heap.size w)
 have H : (agonicref05_end.l0 k l0 a1 ([] : List (S54)) 0) = some r := h
 clear h
 have H' := Aside0.mk H
 clear H
 go_enter Try.func85, Try.ntmps85
 go_wp2
 go_loopg [5, 6] k (fun kq v5 v6 w' => ∃ (x5_1 : List (S54)) (x6_1 : Int), v6 = .int .i64 x6_1 ∧ Aside0 (agonicref05_end.l0 kq l0 a1 x5_1 x6_1 = some r) ∧ Aside0 (kq ≤ k) ∧ Aside0 (Kd.R k54 54 w' w.heap.size (fun _ => True) v5 x5_1) ∧ Aside0 (Below w.heap.size w w'))
 case atStart => exact ⟨(([] : List (S54))), (0), (by first | rfl | (simp; done) | (simp [*]; done)), H', ⟨Nat.le_refl _⟩, ⟨by first | exact Kd.R_nil _ _ _ _ _ | exact Kd.N_nil _ _ _ _ _ | exact Kd.V_nil _ _ _ _ _ | exact Kd.Q_nil _ _ _ _ _ | exact Kd.S_nil _ _ _ _ _⟩, ⟨zh⟩⟩
 case round =>
  clear H'
  try clear p2
  obtain ⟨x5_1, x6_1, rfl, HA, HK1, HO_5, HB⟩ := hrel
  cases gk with
  | zero => exact absurd HA.out (by simp [agonicref05_end.l0])
  | succ k1 =>
   have H := HA.out
   clear HA
   simp only [agonicref05_end.l0] at H
   by_cases c3 : x6_1 < (l0.length : Int)
   ·rw [if_pos c3] at H
    have c3b0 : decide (x6_1 < (l0.length : Int)) = true := decide_eq_true c3
    clear c3
    by_cases c4 : 0 ≤ x6_1
    ·rw [if_pos c4] at H
     have c4b0 : decide (0 ≤ x6_1) = true := decide_eq_true c4
     clear c4
     by_cases c5 : a1 = true
     ·subst c5
      rw [if_pos rfl] at H
      by_cases c6 : x5_1.length < 8796093022208
      ·rw [if_pos c6] at H
       have LMc6 := Aside0.mk c6
       clear c6
       obtain ⟨y356, hy356⟩ : ∃ y_ : List (S54), y_ = (x5_1 ++ [(⟨(rd_T124 l0 x6_1).f0, (rd_T124 l0 x6_1).f1.f1⟩ : S54)]) := ⟨_, rfl⟩
       replace H : (agonicref05_end.l0 k1 l0 true y356 (wrap64 (x6_1 + 1))) = some r := by first | (rw [hy356]; with_reducible exact H) | (have H2_ := (Option.bind_some _ _).symm.trans H; rw [hy356]; with_reducible exact H2_) | (have H2_ := (Option.bind_some _ _).symm.trans H; with_reducible exact H2_) | with_reducible exact H | (rw [hy356]; exact H) | exact H
       have Ny356 := Aside0.mk hy356
       clear hy356
       have H' := Aside0.mk H
       clear H
       try go_wp2
       replace HO_5 := Aside0.mk (Kd.R_drew HO_5.out)
       replace HB := Aside0.mk (below_drew1 HB.out)
       have p352 : 0 ≤ (x6_1 : Int) := zp
       have q352 : x6_1 < (l0.length : Int) := zp
       obtain ⟨ad352, e352, hx352_0, hx352_1, hx352_2⟩ := at_T124 HR0.out x6_1 p352 q352
       have hw352_2 := hx352_2
       have hw352_1 := hx352_1
       have hw352_0 := hx352_0
       cases e352
       replace hx352_0 := (HB.out.cell (World.block_lt_of_cell? w _ hx352_0)).trans hx352_0
       replace hx352_1 := (HB.out.cell (World.block_lt_of_cell? w _ hx352_1)).trans hx352_1
       replace hx352_2 := (HB.out.cell (World.block_lt_of_cell? w _ hx352_2)).trans hx352_2
       replace p352 := eq_true p352
       replace q352 := eq_true q352
       have p353 : 0 ≤ (x6_1 : Int) := zp
       have q353 : x6_1 < (l0.length : Int) := zp
       obtain ⟨ad353, e353, hx353_0, hx353_1, hx353_2⟩ := at_T124 HR0.out x6_1 p353 q353
       have hw353_2 := hx353_2
       have hw353_1 := hx353_1
       have hw353_0 := hx353_0
       obtain rfl : ad352 = ad353 := (by injection e353)
       replace hx353_0 := (HB.out.cell (World.block_lt_of_cell? w _ hx353_0)).trans hx353_0
       replace hx353_1 := (HB.out.cell (World.block_lt_of_cell? w _ hx353_1)).trans hx353_1
       replace hx353_2 := (HB.out.cell (World.block_lt_of_cell? w _ hx353_2)).trans hx353_2
       replace p353 := eq_true p353
       replace q353 := eq_true q353
       refine start_ (n := 14) (S := fun w' => w'.cell? (ad352.add ((x6_1).toNat * 3)) = some (.int .i64 ((rd_T124 l0 x6_1).f0)) ∧ w'.cell? ⟨(ad352.add ((x6_1).toNat * 3)).block, (ad352.add ((x6_1).toNat * 3)).off + 1, none⟩ = some (.int .i64 ((rd_T124 l0 x6_1).f1.f0)) ∧ w'.cell? ⟨(ad352.add ((x6_1).toNat * 3)).block, (ad352.add ((x6_1).toNat * 3)).off + 2, none⟩ = some (.int .i64 ((rd_T124 l0 x6_1).f1.f1)) ∧ w'.cell? (ad352.add ((x6_1).toNat * 3)) = some (.int .i64 ((rd_T124 l0 x6_1).f0)) ∧ w'.cell? ⟨(ad352.add ((x6_1).toNat * 3)).block, (ad352.add ((x6_1).toNat * 3)).off + 1, none⟩ = some (.int .i64 ((rd_T124 l0 x6_1).f1.f0)) ∧ w'.cell? ⟨(ad352.add ((x6_1).toNat * 3)).block, (ad352.add ((x6_1).toNat * 3)).off + 2, none⟩ = some (.int .i64 ((rd_T124 l0 x6_1).f1.f1))) (ds := []) #[false, false, false, false, false, false, false, false, false, false, false, false, false, false] (by kernel_rfl) rfl rfl ⟨((HB.out.cell (World.block_lt_of_cell? w _ hw352_0)).trans hw352_0), ((HB.out.cell (World.block_lt_of_cell? w _ hw352_1)).trans hw352_1), ((HB.out.cell (World.block_lt_of_cell? w _ hw352_2)).trans hw352_2), ((HB.out.cell (World.block_lt_of_cell? w _ hw353_0)).trans hw353_0), ((HB.out.cell (World.block_lt_of_cell? w _ hw353_1)).trans hw353_1), ((HB.out.cell (World.block_lt_of_cell? w _ hw353_2)).trans hw353_2)⟩ (fun hHeld => ?_); refine with_tabW agonicref05_end.tab5 agonicref05_end.bits5 (fun HT_ HW_ => ?_)
       generalize wr.drew = w7 at HO_5 HB hx352_0 hx352_1 hx352_2 hx353_0 hx353_1 hx353_2 hHeld ⊢
       refine pq HT_ 0 14 14 1 ?_
       refine pq HT_ 1 15 14 3 ?_
       refine pq HT_ 2 16 14 7 ?_
       refine pq HT_ 3 17 14 15 ?_
       refine pq HT_ 5 19 14 47 ?_
       refine pq HT_ 6 20 14 111 ?_
       refine pq HT_ 7 21 14 239 ?_
       refine pq HT_ 8 22 14 495 ?_
       refine pq HT_ 9 23 14 1007 ?_
       refine take_ (i := 4) (N := some 18) (v := ?_) (a' := ?_) #[true, true, true, true, true, true, true, true, true, true, false, false, false, false] rfl rfl (take_ofW HT_.out HW_.out (by kernel_rfl)) (fun _ _ _ h => h) (Or.inl ⟨by rfl, ?_⟩) hHeld ?_ ?_
       rotate_left
       ·rintro w' ⟨s0, s1, s2, s3, s4, s5⟩
        go_simp
        with_reducible rfl
       rotate_left
       ·simp only [Act.put, List.setIfInBounds_toArray, List.set_cons_zero, List.set_cons_succ, i64_w, i32_w]
        rfl
       refine take_ (i := 10) (N := some 24) (v := ?_) (a' := ?_) #[true, true, true, true, true, true, true, true, true, true, true, false, false, false] rfl rfl (take_ofW HT_.out HW_.out (by kernel_rfl)) (fun _ _ _ h => h) (Or.inl ⟨by rfl, ?_⟩) hHeld ?_ ?_
       rotate_left
       ·rintro w' ⟨s0, s1, s2, s3, s4, s5⟩
        go_simp
        with_reducible rfl
       rotate_left
       ·simp only [Act.put, List.setIfInBounds_toArray, List.set_cons_zero, List.set_cons_succ, i64_w, i32_w]
        rfl
       refine pq HT_ 11 25 14 4095 ?_
       refine one_ (i := 12) (N := some 7) #[true, true, true, true, true, true, true, true, true, true, true, true, true, false] rfl rfl (one_of HT_.out (by kernel_rfl)) (by decide) (fun K hK => ?_)
       refine box_step ?hg (N := 7) ?hd (cs := #[.int .i64 0, .int .i64 0]) (t := 54) ?hr ?_; (case hd => rfl); (case hg => rfl); (case hr => first | (go_simp; done) | (go_simp; rfl))
       intro gb354 hg w8 hbox hb
       replace HO_5 := Aside0.mk (Kd.R_below (Kd.R_elderB (zo HO_5.out) gb354 (Nat.le_of_eq hg.symm)) hb)
       have BK354 := Aside0.mk (hbox)
       have GW354 := zG w hg
       have GE354 := zG w hg
       replace HB := zd hb
       clear hb hbox hg
       refine hK.out _ _ ⟨((HB.out.cell (World.block_lt_of_cell? w _ hw352_0)).trans hw352_0), ((HB.out.cell (World.block_lt_of_cell? w _ hw352_1)).trans hw352_1), ((HB.out.cell (World.block_lt_of_cell? w _ hw352_2)).trans hw352_2), ((HB.out.cell (World.block_lt_of_cell? w _ hw353_0)).trans hw353_0), ((HB.out.cell (World.block_lt_of_cell? w _ hw353_1)).trans hw353_1), ((HB.out.cell (World.block_lt_of_cell? w _ hw353_2)).trans hw353_2)⟩ (fun hHeld => ?_)
       clear hK K
       refine norm_ (a' := ?_) ?_ ?_
       rotate_left
       ·show Act.put _ (some 7) _ = _
        simp only [Act.put, List.setIfInBounds_toArray, List.set_cons_zero, List.set_cons_succ, i64_w, i32_w]
        rfl
       refine one_ (i := 13) (N := none) #[true, true, true, true, true, true, true, true, true, true, true, true, true, true] rfl rfl (one_of HT_.out (by kernel_rfl)) (by decide) (fun K hK => ?_)
       have hs9 : w8.cell? ⟨gb354, 0, none⟩ = some (.int .i64 0) := zy BK354 0
       have hfs9 := blk_frozen BK354.out 0
       have hs10 : w8.cell? ⟨gb354, 1, none⟩ = some (.int .i64 0) := zy BK354 1
       have hfs10 := blk_frozen BK354.out 1
       refine skip_ (w1 := ?_) (by rfl) rfl ?_ ?_
       rotate_left
       ·go_simp
        rfl
       refine hK.out _ _ ⟨((cell_far (p := ⟨gb354, _, none⟩) (by first | exact Nat.ne_of_lt (Nat.lt_of_lt_of_le (zv hw352_0) GW354.out) | (rw [add_block]; exact Nat.ne_of_lt (Nat.lt_of_lt_of_le (zv hw352_0) GW354.out)) | (show (Addr.add _ _).block ≠ _; rw [add_block]; exact Nat.ne_of_lt (Nat.lt_of_lt_of_le (zv hw352_0) GW354.out)) | (dsimp only; exact Nat.ne_of_lt (Nat.lt_of_lt_of_le (zv hw352_0) GW354.out))) _).trans (((cell_far (p := ⟨gb354, _, none⟩) (by first | exact Nat.ne_of_lt (Nat.lt_of_lt_of_le (zv hw352_0) GW354.out) | (rw [add_block]; exact Nat.ne_of_lt (Nat.lt_of_lt_of_le (zv hw352_0) GW354.out)) | (show (Addr.add _ _).block ≠ _; rw [add_block]; exact Nat.ne_of_lt (Nat.lt_of_lt_of_le (zv hw352_0) GW354.out)) | (dsimp only; exact Nat.ne_of_lt (Nat.lt_of_lt_of_le (zv hw352_0) GW354.out))) _).trans (hHeld.1)))), ((cell_far (p := ⟨gb354, _, none⟩) (by first | exact Nat.ne_of_lt (Nat.lt_of_lt_of_le (zv hw352_1) GW354.out) | (rw [add_block]; exact Nat.ne_of_lt (Nat.lt_of_lt_of_le (zv hw352_1) GW354.out)) | (show (Addr.add _ _).block ≠ _; rw [add_block]; exact Nat.ne_of_lt (Nat.lt_of_lt_of_le (zv hw352_1) GW354.out)) | (dsimp only; exact Nat.ne_of_lt (Nat.lt_of_lt_of_le (zv hw352_1) GW354.out))) _).trans (((cell_far (p := ⟨gb354, _, none⟩) (by first | exact Nat.ne_of_lt (Nat.lt_of_lt_of_le (zv hw352_1) GW354.out) | (rw [add_block]; exact Nat.ne_of_lt (Nat.lt_of_lt_of_le (zv hw352_1) GW354.out)) | (show (Addr.add _ _).block ≠ _; rw [add_block]; exact Nat.ne_of_lt (Nat.lt_of_lt_of_le (zv hw352_1) GW354.out)) | (dsimp only; exact Nat.ne_of_lt (Nat.lt_of_lt_of_le (zv hw352_1) GW354.out))) _).trans (hHeld.2.1)))), ((cell_far (p := ⟨gb354, _, none⟩) (by first | exact Nat.ne_of_lt (Nat.lt_of_lt_of_le (zv hw352_2) GW354.out) | (rw [add_block]; exact Nat.ne_of_lt (Nat.lt_of_lt_of_le (zv hw352_2) GW354.out)) | (show (Addr.add _ _).block ≠ _; rw [add_block]; exact Nat.ne_of_lt (Nat.lt_of_lt_of_le (zv hw352_2) GW354.out)) | (dsimp only; exact Nat.ne_of_lt (Nat.lt_of_lt_of_le (zv hw352_2) GW354.out))) _).trans (((cell_far (p := ⟨gb354, _, none⟩) (by first | exact Nat.ne_of_lt (Nat.lt_of_lt_of_le (zv hw352_2) GW354.out) | (rw [add_block]; exact Nat.ne_of_lt (Nat.lt_of_lt_of_le (zv hw352_2) GW354.out)) | (show (Addr.add _ _).block ≠ _; rw [add_block]; exact Nat.ne_of_lt (Nat.lt_of_lt_of_le (zv hw352_2) GW354.out)) | (dsimp only; exact Nat.ne_of_lt (Nat.lt_of_lt_of_le (zv hw352_2) GW354.out))) _).trans (hHeld.2.2.1)))), ((cell_far (p := ⟨gb354, _, none⟩) (by first | exact Nat.ne_of_lt (Nat.lt_of_lt_of_le (zv hw353_0) GW354.out) | (rw [add_block]; exact Nat.ne_of_lt (Nat.lt_of_lt_of_le (zv hw353_0) GW354.out)) | (show (Addr.add _ _).block ≠ _; rw [add_block]; exact Nat.ne_of_lt (Nat.lt_of_lt_of_le (zv hw353_0) GW354.out)) | (dsimp only; exact Nat.ne_of_lt (Nat.lt_of_lt_of_le (zv hw353_0) GW354.out))) _).trans (((cell_far (p := ⟨gb354, _, none⟩) (by first | exact Nat.ne_of_lt (Nat.lt_of_lt_of_le (zv hw353_0) GW354.out) | (rw [add_block]; exact Nat.ne_of_lt (Nat.lt_of_lt_of_le (zv hw353_0) GW354.out)) | (show (Addr.add _ _).block ≠ _; rw [add_block]; exact Nat.ne_of_lt (Nat.lt_of_lt_of_le (zv hw353_0) GW354.out)) | (dsimp only; exact Nat.ne_of_lt (Nat.lt_of_lt_of_le (zv hw353_0) GW354.out))) _).trans (hHeld.2.2.2.1)))), ((cell_far (p := ⟨gb354, _, none⟩) (by first | exact Nat.ne_of_lt (Nat.lt_of_lt_of_le (zv hw353_1) GW354.out) | (rw [add_block]; exact Nat.ne_of_lt (Nat.lt_of_lt_of_le (zv hw353_1) GW354.out)) | (show (Addr.add _ _).block ≠ _; rw [add_block]; exact Nat.ne_of_lt (Nat.lt_of_lt_of_le (zv hw353_1) GW354.out)) | (dsimp only; exact Nat.ne_of_lt (Nat.lt_of_lt_of_le (zv hw353_1) GW354.out))) _).trans (((cell_far (p := ⟨gb354, _, none⟩) (by first | exact Nat.ne_of_lt (Nat.lt_of_lt_of_le (zv hw353_1) GW354.out) | (rw [add_block]; exact Nat.ne_of_lt (Nat.lt_of_lt_of_le (zv hw353_1) GW354.out)) | (show (Addr.add _ _).block ≠ _; rw [add_block]; exact Nat.ne_of_lt (Nat.lt_of_lt_of_le (zv hw353_1) GW354.out)) | (dsimp only; exact Nat.ne_of_lt (Nat.lt_of_lt_of_le (zv hw353_1) GW354.out))) _).trans (hHeld.2.2.2.2.1)))), ((cell_far (p := ⟨gb354, _, none⟩) (by first | exact Nat.ne_of_lt (Nat.lt_of_lt_of_le (zv hw353_2) GW354.out) | (rw [add_block]; exact Nat.ne_of_lt (Nat.lt_of_lt_of_le (zv hw353_2) GW354.out)) | (show (Addr.add _ _).block ≠ _; rw [add_block]; exact Nat.ne_of_lt (Nat.lt_of_lt_of_le (zv hw353_2) GW354.out)) | (dsimp only; exact Nat.ne_of_lt (Nat.lt_of_lt_of_le (zv hw353_2) GW354.out))) _).trans (((cell_far (p := ⟨gb354, _, none⟩) (by first | exact Nat.ne_of_lt (Nat.lt_of_lt_of_le (zv hw353_2) GW354.out) | (rw [add_block]; exact Nat.ne_of_lt (Nat.lt_of_lt_of_le (zv hw353_2) GW354.out)) | (show (Addr.add _ _).block ≠ _; rw [add_block]; exact Nat.ne_of_lt (Nat.lt_of_lt_of_le (zv hw353_2) GW354.out)) | (dsimp only; exact Nat.ne_of_lt (Nat.lt_of_lt_of_le (zv hw353_2) GW354.out))) _).trans (hHeld.2.2.2.2.2))))⟩ (fun hHeld => ?_)
       clear hK K
       refine done_ (done_of HT_.out (by kernel_rfl)) ?_
       have p355 : 0 ≤ (x6_1 : Int) := zp
       have q355 : x6_1 < (l0.length : Int) := zp
       obtain ⟨ad355, e355, hx355_0, hx355_1, hx355_2⟩ := at_T124 HR0.out x6_1 p355 q355
       obtain rfl : ad352 = ad355 := (by injection e355)
       have hn355_0 : ad352.block ≠ gb354 := Nat.ne_of_lt (Nat.lt_of_lt_of_le (zv hx355_0) GW354.out)
       have hn355_1 : ad352.block ≠ gb354 := Nat.ne_of_lt (Nat.lt_of_lt_of_le (zv hx355_0) GW354.out)
       replace hx355_0 := (HB.out.cell (World.block_lt_of_cell? w _ hx355_0)).trans hx355_0
       replace hx355_1 := (HB.out.cell (World.block_lt_of_cell? w _ hx355_1)).trans hx355_1
       replace hx355_2 := (HB.out.cell (World.block_lt_of_cell? w _ hx355_2)).trans hx355_2
       replace hx355_0 := (cell_far (p := ⟨gb354, 0, none⟩) (by first | (rw [add_block]; exact hn355_0) | (show (Addr.add _ _).block ≠ _; rw [add_block]; exact hn355_0) | exact hn355_0) (.int .i64 ((rd_T124 l0 x6_1).f0))).trans hx355_0
       replace hx355_1 := (cell_far (p := ⟨gb354, 0, none⟩) (by first | (rw [add_block]; exact hn355_0) | (show (Addr.add _ _).block ≠ _; rw [add_block]; exact hn355_0) | exact hn355_0) (.int .i64 ((rd_T124 l0 x6_1).f0))).trans hx355_1
       replace hx355_2 := (cell_far (p := ⟨gb354, 0, none⟩) (by first | (rw [add_block]; exact hn355_0) | (show (Addr.add _ _).block ≠ _; rw [add_block]; exact hn355_0) | exact hn355_0) (.int .i64 ((rd_T124 l0 x6_1).f0))).trans hx355_2
       replace hx355_0 := (cell_far (p := ⟨gb354, 1, none⟩) (by first | (rw [add_block]; exact hn355_1) | (show (Addr.add _ _).block ≠ _; rw [add_block]; exact hn355_1) | exact hn355_1) (.int .i64 ((rd_T124 l0 x6_1).f1.f0))).trans hx355_0
       replace hx355_1 := (cell_far (p := ⟨gb354, 1, none⟩) (by first | (rw [add_block]; exact hn355_1) | (show (Addr.add _ _).block ≠ _; rw [add_block]; exact hn355_1) | exact hn355_1) (.int .i64 ((rd_T124 l0 x6_1).f1.f0))).trans hx355_1
       replace hx355_2 := (cell_far (p := ⟨gb354, 1, none⟩) (by first | (rw [add_block]; exact hn355_1) | (show (Addr.add _ _).block ≠ _; rw [add_block]; exact hn355_1) | exact hn355_1) (.int .i64 ((rd_T124 l0 x6_1).f1.f0))).trans hx355_2
       clear hn355_0
       clear hn355_1
       replace p355 := eq_true p355
       replace q355 := eq_true q355
       have hcz11_0 : w8.cell? ⟨gb354, 0, none⟩ = some (.int .i64 0) := zy BK354 0
       have hcz11_1 : w8.cell? ⟨gb354, 1, none⟩ = some (.int .i64 0) := zy BK354 1
       have hfz11_0 := blk_frozen BK354.out 0
       have hfz11_1 := blk_frozen BK354.out 1
       have hq1_ : (((w8.setCell ⟨gb354, 0, none⟩ (.int .i64 ((rd_T124 l0 x6_1).f0))).setCell ⟨gb354, 1, none⟩ (.int .i64 ((rd_T124 l0 x6_1).f1.f0))).setCell ⟨gb354, 1, none⟩ (.int .i64 ((rd_T124 l0 x6_1).f1.f1))).cell? ⟨gb354, 1, none⟩ = some (.int .i64 ((rd_T124 l0 x6_1).f1.f1)) := (blk_cell (blk_put (cs := #[.int .i64 ((rd_T124 l0 x6_1).f0), .int .i64 ((rd_T124 l0 x6_1).f1.f0)]) (blk_put (cs := #[.int .i64 ((rd_T124 l0 x6_1).f0), .int .i64 0]) (blk_put (cs := #[.int .i64 0, .int .i64 0]) BK354.out 0 _ rfl) 1 _ rfl) 1 _ rfl) 1).trans rfl
       try go_wp2_with (first | ((with_reducible refine gate_builtin (b := .append) (xs := #[.tmp 34, .tmp 36]) rfl ?_); at_builtin; refine Kd.R_append k54 (w0 := w) w.heap.size rfl (.tmp 34) (.tmp 36) 26 54 (.agg #[(.int .i64 0), (.int .i64 0)]) 16 rfl Try.underlying26 info54 rfl (by decide) (by omega) u5 x5_1 (⟨(rd_T124 l0 x6_1).f0, (rd_T124 l0 x6_1).f1.f1⟩ : S54) [.int .i64 ((rd_T124 l0 x6_1).f0), .int .i64 ((rd_T124 l0 x6_1).f1.f1)] (fun k_ => k_ ≠ gb354) (fun _ => False) rfl (by first | (go_simp; done) | (go_simp; rfl)) ?aP (fun _ hk => hk.elim) ?aF ?aO ?aB ?aS ?aL ?_; (case aP => exact k54_mkM _ _ _ (⟨(rd_T124 l0 x6_1).f0, (rd_T124 l0 x6_1).f1.f1⟩ : S54)); (case aB => exact zh); (case aF => exact (fun k_ hk => Kd.freshB (g := gb354) (o := .cells #[.int .i64 ((rd_T124 l0 x6_1).f0), .int .i64 ((rd_T124 l0 x6_1).f1.f1)] 54 (0, 0)) (by refine zm ?_; refine blk_put (cs := #[.int .i64 ((rd_T124 l0 x6_1).f0), .int .i64 ((rd_T124 l0 x6_1).f1.f0)]) ?_ 1 _ rfl; refine zm ?_; refine blk_put (cs := #[.int .i64 ((rd_T124 l0 x6_1).f0), .int .i64 0]) ?_ 1 _ rfl; refine zm ?_; refine blk_put (cs := #[.int .i64 0, .int .i64 0]) ?_ 0 _ rfl; refine zm ?_; exact BK354.out) k_ hk)); (case aO => exact (by refine zl ?_; exact Kd.R_mono (Kd.R_far (p := ⟨gb354, 1, none⟩) (Kd.R_far (p := ⟨gb354, 1, none⟩) (Kd.R_far (p := ⟨gb354, 0, none⟩) (Kd.R_mono HO_5.out (fun k_ hk => (⟨hk, hk.2⟩ : _ ∧ k_ ≠ gb354))) (fun _ hk => hk.2) (.int .i64 ((rd_T124 l0 x6_1).f0))) (fun _ hk => hk.2) (.int .i64 ((rd_T124 l0 x6_1).f1.f0))) (fun _ hk => hk.2) (.int .i64 ((rd_T124 l0 x6_1).f1.f1))) (fun _ hk => hk.1.2))); (case aS => exact (below_size zh)); (case aL => have := LMc6.out; omega); intro v357 w12 ho hb hg hat; rw [← Ny356.out] at ho; replace HB := Aside0.mk (hb); have HO358 := Aside0.mk (ho); clear HO_5; clear ho hb hg hat))
       go_roundg k1
       case measure => have := HK1.out; omega
       case rel => exact ⟨(y356), (wrap64 (x6_1 + 1)), (by first | rfl | (simp; done) | (simp [*]; done)), H', ⟨by have := HK1.out; omega⟩, ⟨by refine zl ?_; exact Kd.R_mono HO358.out (fun _ hk => trivial)⟩, ⟨zh⟩⟩
      ·rw [if_neg c6] at H
       exact absurd H (by simp)
     ·replace c5 := Bool.eq_false_iff.mpr c5
      subst c5
      rw [if_neg (show ¬ (false = true) by decide)] at H
      by_cases c13 : x5_1.length < 8796093022208
      ·rw [if_pos c13] at H
       have LMc13 := Aside0.mk c13
       clear c13
       obtain ⟨y359, hy359⟩ : ∃ y_ : List (S54), y_ = (x5_1 ++ [(⟨(rd_T124 l0 x6_1).f0, (rd_T124 l0 x6_1).f1.f0⟩ : S54)]) := ⟨_, rfl⟩
       replace H : (agonicref05_end.l0 k1 l0 false y359 (wrap64 (x6_1 + 1))) = some r := by first | (rw [hy359]; with_reducible exact H) | (have H2_ := (Option.bind_some _ _).symm.trans H; rw [hy359]; with_reducible exact H2_) | (have H2_ := (Option.bind_some _ _).symm.trans H; with_reducible exact H2_) | with_reducible exact H | (rw [hy359]; exact H) | exact H
       have Ny359 := Aside0.mk hy359
       clear hy359
       have H' := Aside0.mk H
       clear H
       try go_wp2
       replace HO_5 := Aside0.mk (Kd.R_drew HO_5.out)
       replace HB := Aside0.mk (below_drew1 HB.out)
       have p352 : 0 ≤ (x6_1 : Int) := zp
       have q352 : x6_1 < (l0.length : Int) := zp
       obtain ⟨ad352, e352, hx352_0, hx352_1, hx352_2⟩ := at_T124 HR0.out x6_1 p352 q352
       have hw352_2 := hx352_2
       have hw352_1 := hx352_1
       have hw352_0 := hx352_0
       cases e352
       replace hx352_0 := (HB.out.cell (World.block_lt_of_cell? w _ hx352_0)).trans hx352_0
       replace hx352_1 := (HB.out.cell (World.block_lt_of_cell? w _ hx352_1)).trans hx352_1
       replace hx352_2 := (HB.out.cell (World.block_lt_of_cell? w _ hx352_2)).trans hx352_2
       replace p352 := eq_true p352
       replace q352 := eq_true q352
       have p353 : 0 ≤ (x6_1 : Int) := zp
       have q353 : x6_1 < (l0.length : Int) := zp
       obtain ⟨ad353, e353, hx353_0, hx353_1, hx353_2⟩ := at_T124 HR0.out x6_1 p353 q353
       have hw353_2 := hx353_2
       have hw353_1 := hx353_1
       have hw353_0 := hx353_0
       obtain rfl : ad352 = ad353 := (by injection e353)
       replace hx353_0 := (HB.out.cell (World.block_lt_of_cell? w _ hx353_0)).trans hx353_0
       replace hx353_1 := (HB.out.cell (World.block_lt_of_cell? w _ hx353_1)).trans hx353_1
       replace hx353_2 := (HB.out.cell (World.block_lt_of_cell? w _ hx353_2)).trans hx353_2
       replace p353 := eq_true p353
       replace q353 := eq_true q353
       refine start_ (n := 14) (S := fun w' => w'.cell? (ad352.add ((x6_1).toNat * 3)) = some (.int .i64 ((rd_T124 l0 x6_1).f0)) ∧ w'.cell? ⟨(ad352.add ((x6_1).toNat * 3)).block, (ad352.add ((x6_1).toNat * 3)).off + 1, none⟩ = some (.int .i64 ((rd_T124 l0 x6_1).f1.f0)) ∧ w'.cell? ⟨(ad352.add ((x6_1).toNat * 3)).block, (ad352.add ((x6_1).toNat * 3)).off + 2, none⟩ = some (.int .i64 ((rd_T124 l0 x6_1).f1.f1)) ∧ w'.cell? (ad352.add ((x6_1).toNat * 3)) = some (.int .i64 ((rd_T124 l0 x6_1).f0)) ∧ w'.cell? ⟨(ad352.add ((x6_1).toNat * 3)).block, (ad352.add ((x6_1).toNat * 3)).off + 1, none⟩ = some (.int .i64 ((rd_T124 l0 x6_1).f1.f0)) ∧ w'.cell? ⟨(ad352.add ((x6_1).toNat * 3)).block, (ad352.add ((x6_1).toNat * 3)).off + 2, none⟩ = some (.int .i64 ((rd_T124 l0 x6_1).f1.f1))) (ds := []) #[false, false, false, false, false, false, false, false, false, false, false, false, false, false] (by kernel_rfl) rfl rfl ⟨((HB.out.cell (World.block_lt_of_cell? w _ hw352_0)).trans hw352_0), ((HB.out.cell (World.block_lt_of_cell? w _ hw352_1)).trans hw352_1), ((HB.out.cell (World.block_lt_of_cell? w _ hw352_2)).trans hw352_2), ((HB.out.cell (World.block_lt_of_cell? w _ hw353_0)).trans hw353_0), ((HB.out.cell (World.block_lt_of_cell? w _ hw353_1)).trans hw353_1), ((HB.out.cell (World.block_lt_of_cell? w _ hw353_2)).trans hw353_2)⟩ (fun hHeld => ?_); refine with_tabW agonicref05_end.tab5 agonicref05_end.bits5 (fun HT_ HW_ => ?_)
       generalize wr.drew = w14 at HO_5 HB hx352_0 hx352_1 hx352_2 hx353_0 hx353_1 hx353_2 hHeld ⊢
       refine pq HT_ 0 14 14 1 ?_
       refine pq HT_ 1 15 14 3 ?_
       refine pq HT_ 2 16 14 7 ?_
       refine pq HT_ 3 17 14 15 ?_
       refine pq HT_ 5 19 14 47 ?_
       refine pq HT_ 6 20 14 111 ?_
       refine pq HT_ 7 21 14 239 ?_
       refine pq HT_ 8 22 14 495 ?_
       refine pq HT_ 9 23 14 1007 ?_
       refine take_ (i := 4) (N := some 18) (v := ?_) (a' := ?_) #[true, true, true, true, true, true, true, true, true, true, false, false, false, false] rfl rfl (take_ofW HT_.out HW_.out (by kernel_rfl)) (fun _ _ _ h => h) (Or.inl ⟨by rfl, ?_⟩) hHeld ?_ ?_
       rotate_left
       ·rintro w' ⟨s0, s1, s2, s3, s4, s5⟩
        go_simp
        with_reducible rfl
       rotate_left
       ·simp only [Act.put, List.setIfInBounds_toArray, List.set_cons_zero, List.set_cons_succ, i64_w, i32_w]
        rfl
       refine take_ (i := 10) (N := some 24) (v := ?_) (a' := ?_) #[true, true, true, true, true, true, true, true, true, true, true, false, false, false] rfl rfl (take_ofW HT_.out HW_.out (by kernel_rfl)) (fun _ _ _ h => h) (Or.inl ⟨by rfl, ?_⟩) hHeld ?_ ?_
       rotate_left
       ·rintro w' ⟨s0, s1, s2, s3, s4, s5⟩
        go_simp
        with_reducible rfl
       rotate_left
       ·simp only [Act.put, List.setIfInBounds_toArray, List.set_cons_zero, List.set_cons_succ, i64_w, i32_w]
        rfl
       refine pq HT_ 11 25 14 4095 ?_
       refine one_ (i := 12) (N := some 7) #[true, true, true, true, true, true, true, true, true, true, true, true, true, false] rfl rfl (one_of HT_.out (by kernel_rfl)) (by decide) (fun K hK => ?_)
       refine box_step ?hg (N := 7) ?hd (cs := #[.int .i64 0, .int .i64 0]) (t := 54) ?hr ?_; (case hd => rfl); (case hg => rfl); (case hr => first | (go_simp; done) | (go_simp; rfl))
       intro gb354 hg w15 hbox hb
       replace HO_5 := Aside0.mk (Kd.R_below (Kd.R_elderB (zo HO_5.out) gb354 (Nat.le_of_eq hg.symm)) hb)
       have BK354 := Aside0.mk (hbox)
       have GW354 := zG w hg
       have GE354 := zG w hg
       replace HB := zd hb
       clear hb hbox hg
       refine hK.out _ _ ⟨((HB.out.cell (World.block_lt_of_cell? w _ hw352_0)).trans hw352_0), ((HB.out.cell (World.block_lt_of_cell? w _ hw352_1)).trans hw352_1), ((HB.out.cell (World.block_lt_of_cell? w _ hw352_2)).trans hw352_2), ((HB.out.cell (World.block_lt_of_cell? w _ hw353_0)).trans hw353_0), ((HB.out.cell (World.block_lt_of_cell? w _ hw353_1)).trans hw353_1), ((HB.out.cell (World.block_lt_of_cell? w _ hw353_2)).trans hw353_2)⟩ (fun hHeld => ?_)
       clear hK K
       refine norm_ (a' := ?_) ?_ ?_
       rotate_left
       ·show Act.put _ (some 7) _ = _
        simp only [Act.put, List.setIfInBounds_toArray, List.set_cons_zero, List.set_cons_succ, i64_w, i32_w]
        rfl
       refine one_ (i := 13) (N := none) #[true, true, true, true, true, true, true, true, true, true, true, true, true, true] rfl rfl (one_of HT_.out (by kernel_rfl)) (by decide) (fun K hK => ?_)
       have hs16 : w15.cell? ⟨gb354, 0, none⟩ = some (.int .i64 0) := zy BK354 0
       have hfs16 := blk_frozen BK354.out 0
       have hs17 : w15.cell? ⟨gb354, 1, none⟩ = some (.int .i64 0) := zy BK354 1
       have hfs17 := blk_frozen BK354.out 1
       refine skip_ (w1 := ?_) (by rfl) rfl ?_ ?_
       rotate_left
       ·go_simp
        rfl
       refine hK.out _ _ ⟨((cell_far (p := ⟨gb354, _, none⟩) (by first | exact Nat.ne_of_lt (Nat.lt_of_lt_of_le (zv hw352_0) GW354.out) | (rw [add_block]; exact Nat.ne_of_lt (Nat.lt_of_lt_of_le (zv hw352_0) GW354.out)) | (show (Addr.add _ _).block ≠ _; rw [add_block]; exact Nat.ne_of_lt (Nat.lt_of_lt_of_le (zv hw352_0) GW354.out)) | (dsimp only; exact Nat.ne_of_lt (Nat.lt_of_lt_of_le (zv hw352_0) GW354.out))) _).trans (((cell_far (p := ⟨gb354, _, none⟩) (by first | exact Nat.ne_of_lt (Nat.lt_of_lt_of_le (zv hw352_0) GW354.out) | (rw [add_block]; exact Nat.ne_of_lt (Nat.lt_of_lt_of_le (zv hw352_0) GW354.out)) | (show (Addr.add _ _).block ≠ _; rw [add_block]; exact Nat.ne_of_lt (Nat.lt_of_lt_of_le (zv hw352_0) GW354.out)) | (dsimp only; exact Nat.ne_of_lt (Nat.lt_of_lt_of_le (zv hw352_0) GW354.out))) _).trans (hHeld.1)))), ((cell_far (p := ⟨gb354, _, none⟩) (by first | exact Nat.ne_of_lt (Nat.lt_of_lt_of_le (zv hw352_1) GW354.out) | (rw [add_block]; exact Nat.ne_of_lt (Nat.lt_of_lt_of_le (zv hw352_1) GW354.out)) | (show (Addr.add _ _).block ≠ _; rw [add_block]; exact Nat.ne_of_lt (Nat.lt_of_lt_of_le (zv hw352_1) GW354.out)) | (dsimp only; exact Nat.ne_of_lt (Nat.lt_of_lt_of_le (zv hw352_1) GW354.out))) _).trans (((cell_far (p := ⟨gb354, _, none⟩) (by first | exact Nat.ne_of_lt (Nat.lt_of_lt_of_le (zv hw352_1) GW354.out) | (rw [add_block]; exact Nat.ne_of_lt (Nat.lt_of_lt_of_le (zv hw352_1) GW354.out)) | (show (Addr.add _ _).block ≠ _; rw [add_block]; exact Nat.ne_of_lt (Nat.lt_of_lt_of_le (zv hw352_1) GW354.out)) | (dsimp only; exact Nat.ne_of_lt (Nat.lt_of_lt_of_le (zv hw352_1) GW354.out))) _).trans (hHeld.2.1)))), ((cell_far (p := ⟨gb354, _, none⟩) (by first | exact Nat.ne_of_lt (Nat.lt_of_lt_of_le (zv hw352_2) GW354.out) | (rw [add_block]; exact Nat.ne_of_lt (Nat.lt_of_lt_of_le (zv hw352_2) GW354.out)) | (show (Addr.add _ _).block ≠ _; rw [add_block]; exact Nat.ne_of_lt (Nat.lt_of_lt_of_le (zv hw352_2) GW354.out)) | (dsimp only; exact Nat.ne_of_lt (Nat.lt_of_lt_of_le (zv hw352_2) GW354.out))) _).trans (((cell_far (p := ⟨gb354, _, none⟩) (by first | exact Nat.ne_of_lt (Nat.lt_of_lt_of_le (zv hw352_2) GW354.out) | (rw [add_block]; exact Nat.ne_of_lt (Nat.lt_of_lt_of_le (zv hw352_2) GW354.out)) | (show (Addr.add _ _).block ≠ _; rw [add_block]; exact Nat.ne_of_lt (Nat.lt_of_lt_of_le (zv hw352_2) GW354.out)) | (dsimp only; exact Nat.ne_of_lt (Nat.lt_of_lt_of_le (zv hw352_2) GW354.out))) _).trans (hHeld.2.2.1)))), ((cell_far (p := ⟨gb354, _, none⟩) (by first | exact Nat.ne_of_lt (Nat.lt_of_lt_of_le (zv hw353_0) GW354.out) | (rw [add_block]; exact Nat.ne_of_lt (Nat.lt_of_lt_of_le (zv hw353_0) GW354.out)) | (show (Addr.add _ _).block ≠ _; rw [add_block]; exact Nat.ne_of_lt (Nat.lt_of_lt_of_le (zv hw353_0) GW354.out)) | (dsimp only; exact Nat.ne_of_lt (Nat.lt_of_lt_of_le (zv hw353_0) GW354.out))) _).trans (((cell_far (p := ⟨gb354, _, none⟩) (by first | exact Nat.ne_of_lt (Nat.lt_of_lt_of_le (zv hw353_0) GW354.out) | (rw [add_block]; exact Nat.ne_of_lt (Nat.lt_of_lt_of_le (zv hw353_0) GW354.out)) | (show (Addr.add _ _).block ≠ _; rw [add_block]; exact Nat.ne_of_lt (Nat.lt_of_lt_of_le (zv hw353_0) GW354.out)) | (dsimp only; exact Nat.ne_of_lt (Nat.lt_of_lt_of_le (zv hw353_0) GW354.out))) _).trans (hHeld.2.2.2.1)))), ((cell_far (p := ⟨gb354, _, none⟩) (by first | exact Nat.ne_of_lt (Nat.lt_of_lt_of_le (zv hw353_1) GW354.out) | (rw [add_block]; exact Nat.ne_of_lt (Nat.lt_of_lt_of_le (zv hw353_1) GW354.out)) | (show (Addr.add _ _).block ≠ _; rw [add_block]; exact Nat.ne_of_lt (Nat.lt_of_lt_of_le (zv hw353_1) GW354.out)) | (dsimp only; exact Nat.ne_of_lt (Nat.lt_of_lt_of_le (zv hw353_1) GW354.out))) _).trans (((cell_far (p := ⟨gb354, _, none⟩) (by first | exact Nat.ne_of_lt (Nat.lt_of_lt_of_le (zv hw353_1) GW354.out) | (rw [add_block]; exact Nat.ne_of_lt (Nat.lt_of_lt_of_le (zv hw353_1) GW354.out)) | (show (Addr.add _ _).block ≠ _; rw [add_block]; exact Nat.ne_of_lt (Nat.lt_of_lt_of_le (zv hw353_1) GW354.out)) | (dsimp only; exact Nat.ne_of_lt (Nat.lt_of_lt_of_le (zv hw353_1) GW354.out))) _).trans (hHeld.2.2.2.2.1)))), ((cell_far (p := ⟨gb354, _, none⟩) (by first | exact Nat.ne_of_lt (Nat.lt_of_lt_of_le (zv hw353_2) GW354.out) | (rw [add_block]; exact Nat.ne_of_lt (Nat.lt_of_lt_of_le (zv hw353_2) GW354.out)) | (show (Addr.add _ _).block ≠ _; rw [add_block]; exact Nat.ne_of_lt (Nat.lt_of_lt_of_le (zv hw353_2) GW354.out)) | (dsimp only; exact Nat.ne_of_lt (Nat.lt_of_lt_of_le (zv hw353_2) GW354.out))) _).trans (((cell_far (p := ⟨gb354, _, none⟩) (by first | exact Nat.ne_of_lt (Nat.lt_of_lt_of_le (zv hw353_2) GW354.out) | (rw [add_block]; exact Nat.ne_of_lt (Nat.lt_of_lt_of_le (zv hw353_2) GW354.out)) | (show (Addr.add _ _).block ≠ _; rw [add_block]; exact Nat.ne_of_lt (Nat.lt_of_lt_of_le (zv hw353_2) GW354.out)) | (dsimp only; exact Nat.ne_of_lt (Nat.lt_of_lt_of_le (zv hw353_2) GW354.out))) _).trans (hHeld.2.2.2.2.2))))⟩ (fun hHeld => ?_)
       clear hK K
       refine done_ (done_of HT_.out (by kernel_rfl)) ?_
       have hcz18_0 : w15.cell? ⟨gb354, 0, none⟩ = some (.int .i64 0) := zy BK354 0
       have hcz18_1 : w15.cell? ⟨gb354, 1, none⟩ = some (.int .i64 0) := zy BK354 1
       have hfz18_0 := blk_frozen BK354.out 0
       have hfz18_1 := blk_frozen BK354.out 1
       try go_wp2_with (first | ((with_reducible refine gate_builtin (b := .append) (xs := #[.tmp 34, .tmp 36]) rfl ?_); at_builtin; refine Kd.R_append k54 (w0 := w) w.heap.size rfl (.tmp 34) (.tmp 36) 26 54 (.agg #[(.int .i64 0), (.int .i64 0)]) 16 rfl Try.underlying26 info54 rfl (by decide) (by omega) u5 x5_1 (⟨(rd_T124 l0 x6_1).f0, (rd_T124 l0 x6_1).f1.f0⟩ : S54) [.int .i64 ((rd_T124 l0 x6_1).f0), .int .i64 ((rd_T124 l0 x6_1).f1.f0)] (fun k_ => k_ ≠ gb354) (fun _ => False) rfl (by first | (go_simp; done) | (go_simp; rfl)) ?aP (fun _ hk => hk.elim) ?aF ?aO ?aB ?aS ?aL ?_; (case aP => exact k54_mkM _ _ _ (⟨(rd_T124 l0 x6_1).f0, (rd_T124 l0 x6_1).f1.f0⟩ : S54)); (case aB => exact zh); (case aF => exact (fun k_ hk => Kd.freshB (g := gb354) (o := .cells #[.int .i64 ((rd_T124 l0 x6_1).f0), .int .i64 ((rd_T124 l0 x6_1).f1.f0)] 54 (0, 0)) (by refine zm ?_; refine blk_put (cs := #[.int .i64 ((rd_T124 l0 x6_1).f0), .int .i64 0]) ?_ 1 _ rfl; refine zm ?_; refine blk_put (cs := #[.int .i64 0, .int .i64 0]) ?_ 0 _ rfl; refine zm ?_; exact BK354.out) k_ hk)); (case aO => exact (by refine zl ?_; exact Kd.R_mono (Kd.R_far (p := ⟨gb354, 1, none⟩) (Kd.R_far (p := ⟨gb354, 0, none⟩) (Kd.R_mono HO_5.out (fun k_ hk => (⟨hk, hk.2⟩ : _ ∧ k_ ≠ gb354))) (fun _ hk => hk.2) (.int .i64 ((rd_T124 l0 x6_1).f0))) (fun _ hk => hk.2) (.int .i64 ((rd_T124 l0 x6_1).f1.f0))) (fun _ hk => hk.1.2))); (case aS => exact (below_size zh)); (case aL => have := LMc13.out; omega); intro v360 w19 ho hb hg hat; rw [← Ny359.out] at ho; replace HB := Aside0.mk (hb); have HO361 := Aside0.mk (ho); clear HO_5; clear ho hb hg hat))
       go_roundg k1
       case measure => have := HK1.out; omega
       case rel => exact ⟨(y359), (wrap64 (x6_1 + 1)), (by first | rfl | (simp; done) | (simp [*]; done)), H', ⟨by have := HK1.out; omega⟩, ⟨by refine zl ?_; exact Kd.R_mono HO361.out (fun _ hk => trivial)⟩, ⟨zh⟩⟩
      ·rw [if_neg c13] at H
       exact absurd H (by simp)
    ·rw [if_neg c4] at H
     exact absurd H (by simp)
   ·rw [if_neg c3] at H
    have c3b0 : decide (x6_1 < (l0.length : Int)) = false := decide_eq_false c3
    clear c3
    obtain rfl := Option.some.inj H
    go_wp2
    go_ret
    exact ⟨_, ze, by refine zl ?_; exact HO_5.out, zh⟩
mutual
def agonicref05_folds.l0 : Nat → List (S124) → List (S54) → List (S54) → Bool → Int → Option (Bool)
 | 0, _, _, _, _, _ => none
 | k + 1, x0, x3, x4, x5, x6 => if x6 < (x0.length : Int) then (agonicref05_folds.j1 k x0 x3 x4 x5 x6 (decide ((x0.length : Int) > 1))) else (agonicref05_folds.j1 k x0 x3 x4 x5 x6 false)
def agonicref05_folds.j1 : Nat → List (S124) → List (S54) → List (S54) → Bool → Int → Bool → Option (Bool)
 | 0, _, _, _, _, _, _ => none
 | k + 1, x0, x3, x4, x5, x6, x23 => if x23 = true then ((agonicref05_segment.f x4 x6).bind fun bt368 => ((agonicref05_segment.f x3 x6).bind fun bt374 => (if x5 = true then (agonicref05_folds.l0 k x0 x3 x4 true (wrap64 (x6 + 1))) else (agonicref05_folds.l0 k x0 x3 x4 (decide ((wrap64 ((wrap64 ((wrap64 (bt374.2.2.1 - bt368.1)) + bt374.2.2.2)) - bt368.2.1)) ≤ 0)) (wrap64 (x6 + 1)))))) else (some x5)
end
def agonicref05_folds.f (k : Nat) (l0 : List (S124)) : Option (Bool) := (agonicref05_end.f k l0 false).bind fun t362 => ((agonicref05_end.f k l0 true).bind fun t365 => (agonicref05_folds.l0 k l0 t362 t365 false 0))
set_option maxHeartbeats 8000000 in
set_option maxRecDepth 100000 in
theorem agonicref05_folds.calls (k : Nat) (A0 : Option Addr) (c0 : Nat) (l0 : List (S124)) (r : Bool) (w : World) (hr0 : Kd.C k124 w A0 l0.length l0) (hc0 : l0.length ≤ c0) (h : agonicref05_folds.f k l0 = some r) :
  Calls Try.prog 84 #[.slice A0 l0.length c0] w fun e w' => e = .returned (.bool r) ∧ Below w.heap.size w w' := by
 have hu54 := Try.underlying54
 have HR0 := Aside0.mk hr0
 have HC0 := Aside0.mk hc0
 clear hr0 hc0
 have HB := Aside0.mk (Below.refl w.heap.size w)
 have H : ((agonicref05_end.f k l0 false).bind fun t362 => ((agonicref05_end.f k l0 true).bind fun t365 => (agonicref05_folds.l0 k l0 t362 t365 false 0))) = some r := h
 clear h
 replace H := zi H
 obtain ⟨t362, A20, H⟩ := H
 try dsimp only at H
 have A2 := Aside0.mk A20
 clear A20
 replace H := zi H
 obtain ⟨t365, A30, H⟩ := H
 try dsimp only at H
 have A3 := Aside0.mk A30
 clear A30
 have H' := Aside0.mk H
 clear H
 go_enter Try.func84, Try.ntmps84
 go_wp2_with (first | ((with_reducible refine gC 85 rfl ?_); refine gL 12 Try.func85 #[.slice A0 l0.length c0, .bool false] ?_; (with_reducible refine (agonicref05_end.calls k _ _ l0 false t362 _ ?side1 ?side2 A2.out).mono ?_); (case side1 => exact zc HR0.out); (case side2 => exact HC0.out); rintro e w4 ⟨v363, rfl, ho0, hb⟩; refine ⟨_, rfl, ?_⟩; have HO364 := Aside0.mk (Kd.R_lower ho0 (below_size zh)); replace HB := zd hb; (try clear hb); (try clear ho0)) | ((with_reducible refine gC 85 rfl ?_); refine gL 14 Try.func85 #[.slice A0 l0.length c0, .bool true] ?_; (with_reducible refine (agonicref05_end.calls k _ _ l0 true t365 _ ?side1 ?side2 A3.out).mono ?_); (case side1 => exact zc (Kd.C_below HR0.out HB.out)); (case side2 => exact HC0.out); rintro e w5 ⟨v366, rfl, ho0, hb⟩; refine ⟨_, rfl, ?_⟩; have HO367 := Aside0.mk (Kd.R_lower (Kd.R_new' ho0 (Kd.R_lt (zo HO364.out))) (below_size zh)); replace HO364 := Aside0.mk (Kd.R_elder' (zo HO364.out) (Kd.R_base ho0) hb); replace HB := zd hb; (try clear hb); (try clear ho0)))
 go_loopg [5, 6] k (fun kq v5 v6 w' => ∃ (x5_1 : Bool) (x6_1 : Int), v5 = .bool x5_1 ∧ v6 = .int .i64 x6_1 ∧ Aside0 (agonicref05_folds.l0 kq l0 t362 t365 x5_1 x6_1 = some r) ∧ Aside0 (kq ≤ k) ∧ Aside0 (Kd.R k54 54 w' w.heap.size (fun k_ => some k_ ≠ (v366 : Value).ownBlock) v363 t362) ∧ Aside0 (Kd.R k54 54 w' w.heap.size (fun k_ => some k_ ≠ (v363 : Value).ownBlock) v366 t365) ∧ Aside0 (Below w.heap.size w w'))
 case atStart => exact ⟨(false), (0), (by first | rfl | (simp; done) | (simp [*]; done)), (by first | rfl | (simp; done) | (simp [*]; done)), H', ⟨Nat.le_refl _⟩, ⟨by refine zl ?_; exact Kd.R_mono HO364.out (fun _ hk => hk.2)⟩, ⟨by refine zl ?_; exact Kd.R_mono HO367.out (fun _ hk => hk.2)⟩, ⟨zh⟩⟩
 case round =>
  clear H'
  try clear p2
  obtain ⟨x5_1, x6_1, rfl, rfl, HA, HK1, HO_3, HO_4, HB⟩ := hrel
  cases gk with
  | zero => exact absurd HA.out (by simp [agonicref05_folds.l0])
  | succ k1 =>
   have H := HA.out
   clear HA
   simp only [agonicref05_folds.l0] at H
   have HC6 := Aside0.mk H
   clear H
   go_upto_region 4 with (fail)
   go_cut [23] (fun v23 wc => ∃ (kq : Nat) (x23_5 : Bool), v23 = .bool x23_5 ∧ Aside0 (agonicref05_folds.j1 kq l0 t362 t365 x5_1 x6_1 x23_5 = some r) ∧ Aside0 (kq ≤ k1) ∧ Aside0 (Kd.R k54 54 wc w.heap.size (fun k_ => some k_ ≠ (v366 : Value).ownBlock) v363 t362) ∧ Aside0 (Kd.R k54 54 wc w.heap.size (fun k_ => some k_ ≠ (v363 : Value).ownBlock) v366 t365) ∧ Aside0 (Below w.heap.size w wc))
   case first =>
    have H := HC6.out
    clear HC6
    by_cases c7 : x6_1 < (l0.length : Int)
    ·rw [if_pos c7] at H
     have c7b0 : decide (x6_1 < (l0.length : Int)) = true := decide_eq_true c7
     clear c7
     (first | rw [c7b0] | (simp only [i64_w, i32_w]; rw [c7b0]) | skip)
     have H' := Aside0.mk H
     clear H
     go_wp2
     go_meet
     case rel => exact ⟨_, (decide ((l0.length : Int) > 1)), (by first | rfl | (simp; done) | (simp [*]; done)), H', ⟨by have := HK1.out; first | omega | exact Nat.le_refl _⟩, ⟨by refine zl ?_; exact HO_3.out⟩, ⟨by refine zl ?_; exact HO_4.out⟩, ⟨zh⟩⟩
    ·rw [if_neg c7] at H
     have c7b0 : decide (x6_1 < (l0.length : Int)) = false := decide_eq_false c7
     clear c7
     (first | rw [c7b0] | (simp only [i64_w, i32_w]; rw [c7b0]) | skip)
     have H' := Aside0.mk H
     clear H
     go_wp2
     go_meet
     case rel => exact ⟨_, (false), (by first | rfl | (simp; done) | (simp [*]; done)), H', ⟨by have := HK1.out; first | omega | exact Nat.le_refl _⟩, ⟨by refine zl ?_; exact HO_3.out⟩, ⟨by refine zl ?_; exact HO_4.out⟩, ⟨zh⟩⟩
   case rest =>
    clear HC6
    try clear p2
    try clear c7
    try clear c7b0
    try clear p2
    obtain ⟨kq, x23_5, rfl, HA, HJ5, HO_3, HO_4, HB⟩ := hcut
    cases kq with
    | zero => exact absurd HA.out (by simp [agonicref05_folds.j1])
    | succ kj5 =>
     have H := HA.out
     clear HA
     simp only [agonicref05_folds.j1] at H
     by_cases c8 : x23_5 = true
     ·subst c8
      rw [if_pos rfl] at H
      replace H := zi H
      obtain ⟨⟨t368, t369, t370, t371⟩, A90, H⟩ := H
      try dsimp only at H
      have A9 := Aside0.mk A90
      clear A90
      replace H := zi H
      obtain ⟨⟨t374, t375, t376, t377⟩, A100, H⟩ := H
      try dsimp only at H
      have A10 := Aside0.mk A100
      clear A100
      by_cases c11 : x5_1 = true
      ·subst c11
       rw [if_pos rfl] at H
       have H' := Aside0.mk H
       clear H
       obtain ⟨Ao12, co12, eo12⟩ := Kd.R_slice HO_4.out
       subst eo12
       go_wp2_with (first | ((with_reducible refine gC 65 rfl ?_); refine gL 29 Try.func65 #[.slice Ao12 t365.length co12, .int .i64 x6_1] ?_; (with_reducible refine (agonicref05_segment.calls _ _ t365 x6_1 t368 t369 t370 t371 _ ?side1 ?side2 A9.out).mono ?_); (case side1 => exact zc (Kd.R_reads' HO_4.out).2.2); (case side2 => exact (Kd.R_reads' HO_4.out).2.1); rintro e w13 ⟨rfl, hb⟩; refine ⟨_, rfl, ?_⟩; replace HO_3 := zr HO_3 hb; replace HO_4 := zr HO_4 hb; replace HB := zd hb; (try clear hb)) | ((with_reducible refine gD 7 rfl ?_); (try (refine gate_guard (by rfl) ?_; dsimp only)); refine zx 7 #[.int .i64 0, .int .i64 0] 54 ?_; intro gb372 hg w14 hbox hb; replace HO_3 := Aside0.mk (Kd.R_below (Kd.R_elderB (zo HO_3.out) gb372 (Nat.le_of_eq hg.symm)) hb); replace HO_4 := Aside0.mk (Kd.R_below (Kd.R_elderB (zo HO_4.out) gb372 (Nat.le_of_eq hg.symm)) hb); have BK372 := Aside0.mk (hbox); have GE372 := zG w hg; replace HB := zd hb; clear hb hbox hg) | ((with_reducible refine gD 8 rfl ?_); (try (refine gate_guard (by rfl) ?_; dsimp only)); refine zx 8 #[.int .i64 0, .int .i64 0] 54 ?_; intro gb373 hg w15 hbox hb; replace HO_3 := Aside0.mk (Kd.R_below (Kd.R_elderB (zo HO_3.out) gb373 (Nat.le_of_eq hg.symm)) hb); replace HO_4 := Aside0.mk (Kd.R_below (Kd.R_elderB (zo HO_4.out) gb373 (Nat.le_of_eq hg.symm)) hb); have BK373 := Aside0.mk (hbox); have GE373 := zG w hg; replace HB := zd hb; have NB372_373 := zN BK372 hg; have NB373_372 := zM BK372 hg; replace BK372 := zk BK372 hb; clear hb hbox hg; have hnb16 := NB372_373.out; have hnc16 := NB373_372.out; have hcz17_0 : w15.cell? ⟨gb372, 0, none⟩ = some (.int .i64 0) := zy BK372 0; have hcz17_1 : w15.cell? ⟨gb372, 1, none⟩ = some (.int .i64 0) := zy BK372 1; have hfz17_0 := blk_frozen BK372.out 0; have hfz17_1 := blk_frozen BK372.out 1; have hcz18_0 : w15.cell? ⟨gb373, 0, none⟩ = some (.int .i64 0) := zy BK373 0; have hcz18_1 : w15.cell? ⟨gb373, 1, none⟩ = some (.int .i64 0) := zy BK373 1; have hfz18_0 := blk_frozen BK373.out 0; have hfz18_1 := blk_frozen BK373.out 1; obtain ⟨Ao19, co19, eo19⟩ := Kd.R_slice HO_3.out; subst eo19) | ((with_reducible refine gC 65 rfl ?_); refine gL 35 Try.func65 #[.slice Ao19 t362.length co19, .int .i64 x6_1] ?_; (with_reducible refine (agonicref05_segment.calls _ _ t362 x6_1 t374 t375 t376 t377 _ ?side1 ?side2 A10.out).mono ?_); (case side1 => refine (Kd.R_reads' (e := 54) (base := w.heap.size) (ok := fun k_ => ((some k_ ≠ (.slice Ao12 t365.length co12 : Value).ownBlock ∧ k_ ≠ gb372) ∧ k_ ≠ gb373)) (n := t362.length) (c := co19) ?_).2.2; exact (by refine zl ?_; exact (Kd.R_mono (Kd.R_mono (Kd.R_far (p := ⟨gb373, 1, none⟩) (Kd.R_far (p := ⟨gb373, 0, none⟩) (Kd.R_far (p := ⟨gb372, 1, none⟩) (Kd.R_far (p := ⟨gb372, 0, none⟩) (Kd.R_mono (Kd.R_mono HO_3.out (fun k_ hk => (⟨hk, hk.1.2⟩ : _ ∧ k_ ≠ gb372))) (fun k_ hk => (⟨hk, hk.1.2⟩ : _ ∧ k_ ≠ gb373))) (fun _ hk => hk.1.2) (.int .i64 t368)) (fun _ hk => hk.1.2) (.int .i64 t369)) (fun _ hk => hk.2) (.int .i64 t370)) (fun _ hk => hk.2) (.int .i64 t371)) (fun _ h_ => h_.1)) (fun _ h_ => h_.1)))); (case side2 => exact (Kd.R_reads' HO_3.out).2.1); rintro e w20 ⟨rfl, hb⟩; refine ⟨_, rfl, ?_⟩; replace HO_3 := Aside0.mk (Kd.R_below (by refine zl ?_; exact (Kd.R_mono (Kd.R_mono (Kd.R_far (p := ⟨gb373, 1, none⟩) (Kd.R_far (p := ⟨gb373, 0, none⟩) (Kd.R_far (p := ⟨gb372, 1, none⟩) (Kd.R_far (p := ⟨gb372, 0, none⟩) (Kd.R_mono (Kd.R_mono HO_3.out (fun k_ hk => (⟨hk, hk.1.2⟩ : _ ∧ k_ ≠ gb372))) (fun k_ hk => (⟨hk, hk.1.2⟩ : _ ∧ k_ ≠ gb373))) (fun _ hk => hk.1.2) (.int .i64 t368)) (fun _ hk => hk.1.2) (.int .i64 t369)) (fun _ hk => hk.2) (.int .i64 t370)) (fun _ hk => hk.2) (.int .i64 t371)) (fun _ h_ => h_.1)) (fun _ h_ => h_.1))) hb); replace HO_4 := Aside0.mk (Kd.R_below (by refine zl ?_; exact (Kd.R_mono (Kd.R_mono (Kd.R_far (p := ⟨gb373, 1, none⟩) (Kd.R_far (p := ⟨gb373, 0, none⟩) (Kd.R_far (p := ⟨gb372, 1, none⟩) (Kd.R_far (p := ⟨gb372, 0, none⟩) (Kd.R_mono (Kd.R_mono HO_4.out (fun k_ hk => (⟨hk, hk.1.2⟩ : _ ∧ k_ ≠ gb372))) (fun k_ hk => (⟨hk, hk.1.2⟩ : _ ∧ k_ ≠ gb373))) (fun _ hk => hk.1.2) (.int .i64 t368)) (fun _ hk => hk.1.2) (.int .i64 t369)) (fun _ hk => hk.2) (.int .i64 t370)) (fun _ hk => hk.2) (.int .i64 t371)) (fun _ h_ => h_.1)) (fun _ h_ => h_.1))) hb); replace BK372 := Aside0.mk (blk_below (g := gb372) (o := .cells #[.int .i64 t368, .int .i64 t369] 54 (0, 0)) (by refine zm ?_; refine blk_far ?_ NB372_373.out _; refine zm ?_; refine blk_far ?_ NB372_373.out _; refine zm ?_; refine blk_put (cs := #[.int .i64 t368, .int .i64 0]) ?_ 1 _ rfl; refine zm ?_; refine blk_put (cs := #[.int .i64 0, .int .i64 0]) ?_ 0 _ rfl; refine zm ?_; exact BK372.out) hb); replace BK373 := Aside0.mk (blk_below (g := gb373) (o := .cells #[.int .i64 t370, .int .i64 t371] 54 (0, 0)) (by refine zm ?_; refine blk_put (cs := #[.int .i64 t370, .int .i64 0]) ?_ 1 _ rfl; refine zm ?_; refine blk_put (cs := #[.int .i64 0, .int .i64 0]) ?_ 0 _ rfl; refine zm ?_; refine blk_far ?_ NB373_372.out _; refine zm ?_; refine blk_far ?_ NB373_372.out _; refine zm ?_; exact BK373.out) hb); replace HB := zd hb; (try clear hb); (try clear hk)) | ((with_reducible refine gD 9 rfl ?_); (try (refine gate_guard (by rfl) ?_; dsimp only)); refine zx 9 #[.int .i64 0, .int .i64 0] 54 ?_; intro gb378 hg w21 hbox hb; replace HO_3 := Aside0.mk (Kd.R_below (Kd.R_elderB (zo HO_3.out) gb378 (Nat.le_of_eq hg.symm)) hb); replace HO_4 := Aside0.mk (Kd.R_below (Kd.R_elderB (zo HO_4.out) gb378 (Nat.le_of_eq hg.symm)) hb); have BK378 := Aside0.mk (hbox); have GE378 := zG w hg; replace HB := zd hb; have NB372_378 := zN BK372 hg; have NB378_372 := zM BK372 hg; replace BK372 := zk BK372 hb; have NB373_378 := zN BK373 hg; have NB378_373 := zM BK373 hg; replace BK373 := zk BK373 hb; clear hb hbox hg) | ((with_reducible refine gD 10 rfl ?_); (try (refine gate_guard (by rfl) ?_; dsimp only)); refine zx 10 #[.int .i64 0, .int .i64 0] 54 ?_; intro gb379 hg w22 hbox hb; replace HO_3 := Aside0.mk (Kd.R_below (Kd.R_elderB (zo HO_3.out) gb379 (Nat.le_of_eq hg.symm)) hb); replace HO_4 := Aside0.mk (Kd.R_below (Kd.R_elderB (zo HO_4.out) gb379 (Nat.le_of_eq hg.symm)) hb); have BK379 := Aside0.mk (hbox); have GE379 := zG w hg; replace HB := zd hb; have NB372_379 := zN BK372 hg; have NB379_372 := zM BK372 hg; have NB373_379 := zN BK373 hg; have NB379_373 := zM BK373 hg; have NB378_379 := zN BK378 hg; have NB379_378 := zM BK378 hg; replace BK378 := zk BK378 hb; clear hb hbox hg; have hnb23 := NB378_372.out; have hnc23 := NB372_378.out; have hnb24 := NB378_373.out; have hnc24 := NB373_378.out; have hnb25 := NB378_379.out; have hnc25 := NB379_378.out; have hcz26_0 : w22.cell? ⟨gb378, 0, none⟩ = some (.int .i64 0) := zy BK378 0; have hcz26_1 : w22.cell? ⟨gb378, 1, none⟩ = some (.int .i64 0) := zy BK378 1; have hfz26_0 := blk_frozen BK378.out 0; have hfz26_1 := blk_frozen BK378.out 1; have hnb27 := NB379_372.out; have hnc27 := NB372_379.out; have hnb28 := NB379_373.out; have hnc28 := NB373_379.out; have hcz29_0 : w22.cell? ⟨gb379, 0, none⟩ = some (.int .i64 0) := zy BK379 0; have hcz29_1 : w22.cell? ⟨gb379, 1, none⟩ = some (.int .i64 0) := zy BK379 1; have hfz29_0 := blk_frozen BK379.out 0; have hfz29_1 := blk_frozen BK379.out 1))
       go_roundg kj5
       case measure => have := HK1.out; have := HJ5.out; omega
       case rel => exact ⟨(true), (wrap64 (x6_1 + 1)), (by first | rfl | (simp; done) | (simp [*]; done)), (by first | rfl | (simp; done) | (simp [*]; done)), H', ⟨by have := HK1.out; have := HJ5.out; omega⟩, ⟨by refine zl ?_; exact Kd.R_mono (Kd.R_far (p := ⟨gb379, 1, none⟩) (Kd.R_far (p := ⟨gb379, 0, none⟩) (Kd.R_far (p := ⟨gb378, 1, none⟩) (Kd.R_far (p := ⟨gb378, 0, none⟩) (Kd.R_mono (Kd.R_mono HO_3.out (fun k_ hk => (⟨hk, hk.1.2⟩ : _ ∧ k_ ≠ gb378))) (fun k_ hk => (⟨hk, hk.1.2⟩ : _ ∧ k_ ≠ gb379))) (fun _ hk => hk.1.2) (.int .i64 t374)) (fun _ hk => hk.1.2) (.int .i64 t375)) (fun _ hk => hk.2) (.int .i64 t376)) (fun _ hk => hk.2) (.int .i64 t377)) (fun _ hk => hk.1.1.1.1.1.1)⟩, ⟨by refine zl ?_; exact Kd.R_mono (Kd.R_far (p := ⟨gb379, 1, none⟩) (Kd.R_far (p := ⟨gb379, 0, none⟩) (Kd.R_far (p := ⟨gb378, 1, none⟩) (Kd.R_far (p := ⟨gb378, 0, none⟩) (Kd.R_mono (Kd.R_mono HO_4.out (fun k_ hk => (⟨hk, hk.1.2⟩ : _ ∧ k_ ≠ gb378))) (fun k_ hk => (⟨hk, hk.1.2⟩ : _ ∧ k_ ≠ gb379))) (fun _ hk => hk.1.2) (.int .i64 t374)) (fun _ hk => hk.1.2) (.int .i64 t375)) (fun _ hk => hk.2) (.int .i64 t376)) (fun _ hk => hk.2) (.int .i64 t377)) (fun _ hk => hk.1.1.1.1.1.1)⟩, ⟨zh⟩⟩
      ·replace c11 := Bool.eq_false_iff.mpr c11
       subst c11
       rw [if_neg (show ¬ (false = true) by decide)] at H
       have H' := Aside0.mk H
       clear H
       obtain ⟨Ao30, co30, eo30⟩ := Kd.R_slice HO_4.out
       subst eo30
       go_wp2_with (first | ((with_reducible refine gC 65 rfl ?_); refine gL 29 Try.func65 #[.slice Ao30 t365.length co30, .int .i64 x6_1] ?_; (with_reducible refine (agonicref05_segment.calls _ _ t365 x6_1 t368 t369 t370 t371 _ ?side1 ?side2 A9.out).mono ?_); (case side1 => exact zc (Kd.R_reads' HO_4.out).2.2); (case side2 => exact (Kd.R_reads' HO_4.out).2.1); rintro e w31 ⟨rfl, hb⟩; refine ⟨_, rfl, ?_⟩; replace HO_3 := zr HO_3 hb; replace HO_4 := zr HO_4 hb; replace HB := zd hb; (try clear hb)) | ((with_reducible refine gD 7 rfl ?_); (try (refine gate_guard (by rfl) ?_; dsimp only)); refine zx 7 #[.int .i64 0, .int .i64 0] 54 ?_; intro gb372 hg w32 hbox hb; replace HO_3 := Aside0.mk (Kd.R_below (Kd.R_elderB (zo HO_3.out) gb372 (Nat.le_of_eq hg.symm)) hb); replace HO_4 := Aside0.mk (Kd.R_below (Kd.R_elderB (zo HO_4.out) gb372 (Nat.le_of_eq hg.symm)) hb); have BK372 := Aside0.mk (hbox); have GE372 := zG w hg; replace HB := zd hb; clear hb hbox hg) | ((with_reducible refine gD 8 rfl ?_); (try (refine gate_guard (by rfl) ?_; dsimp only)); refine zx 8 #[.int .i64 0, .int .i64 0] 54 ?_; intro gb373 hg w33 hbox hb; replace HO_3 := Aside0.mk (Kd.R_below (Kd.R_elderB (zo HO_3.out) gb373 (Nat.le_of_eq hg.symm)) hb); replace HO_4 := Aside0.mk (Kd.R_below (Kd.R_elderB (zo HO_4.out) gb373 (Nat.le_of_eq hg.symm)) hb); have BK373 := Aside0.mk (hbox); have GE373 := zG w hg; replace HB := zd hb; have NB372_373 := zN BK372 hg; have NB373_372 := zM BK372 hg; replace BK372 := zk BK372 hb; clear hb hbox hg; have hnb34 := NB372_373.out; have hnc34 := NB373_372.out; have hcz35_0 : w33.cell? ⟨gb372, 0, none⟩ = some (.int .i64 0) := zy BK372 0; have hcz35_1 : w33.cell? ⟨gb372, 1, none⟩ = some (.int .i64 0) := zy BK372 1; have hfz35_0 := blk_frozen BK372.out 0; have hfz35_1 := blk_frozen BK372.out 1; have hcz36_0 : w33.cell? ⟨gb373, 0, none⟩ = some (.int .i64 0) := zy BK373 0; have hcz36_1 : w33.cell? ⟨gb373, 1, none⟩ = some (.int .i64 0) := zy BK373 1; have hfz36_0 := blk_frozen BK373.out 0; have hfz36_1 := blk_frozen BK373.out 1; obtain ⟨Ao37, co37, eo37⟩ := Kd.R_slice HO_3.out; subst eo37) | ((with_reducible refine gC 65 rfl ?_); refine gL 35 Try.func65 #[.slice Ao37 t362.length co37, .int .i64 x6_1] ?_; (with_reducible refine (agonicref05_segment.calls _ _ t362 x6_1 t374 t375 t376 t377 _ ?side1 ?side2 A10.out).mono ?_); (case side1 => refine (Kd.R_reads' (e := 54) (base := w.heap.size) (ok := fun k_ => ((some k_ ≠ (.slice Ao30 t365.length co30 : Value).ownBlock ∧ k_ ≠ gb372) ∧ k_ ≠ gb373)) (n := t362.length) (c := co37) ?_).2.2; exact (by refine zl ?_; exact (Kd.R_mono (Kd.R_mono (Kd.R_far (p := ⟨gb373, 1, none⟩) (Kd.R_far (p := ⟨gb373, 0, none⟩) (Kd.R_far (p := ⟨gb372, 1, none⟩) (Kd.R_far (p := ⟨gb372, 0, none⟩) (Kd.R_mono (Kd.R_mono HO_3.out (fun k_ hk => (⟨hk, hk.1.2⟩ : _ ∧ k_ ≠ gb372))) (fun k_ hk => (⟨hk, hk.1.2⟩ : _ ∧ k_ ≠ gb373))) (fun _ hk => hk.1.2) (.int .i64 t368)) (fun _ hk => hk.1.2) (.int .i64 t369)) (fun _ hk => hk.2) (.int .i64 t370)) (fun _ hk => hk.2) (.int .i64 t371)) (fun _ h_ => h_.1)) (fun _ h_ => h_.1)))); (case side2 => exact (Kd.R_reads' HO_3.out).2.1); rintro e w38 ⟨rfl, hb⟩; refine ⟨_, rfl, ?_⟩; replace HO_3 := Aside0.mk (Kd.R_below (by refine zl ?_; exact (Kd.R_mono (Kd.R_mono (Kd.R_far (p := ⟨gb373, 1, none⟩) (Kd.R_far (p := ⟨gb373, 0, none⟩) (Kd.R_far (p := ⟨gb372, 1, none⟩) (Kd.R_far (p := ⟨gb372, 0, none⟩) (Kd.R_mono (Kd.R_mono HO_3.out (fun k_ hk => (⟨hk, hk.1.2⟩ : _ ∧ k_ ≠ gb372))) (fun k_ hk => (⟨hk, hk.1.2⟩ : _ ∧ k_ ≠ gb373))) (fun _ hk => hk.1.2) (.int .i64 t368)) (fun _ hk => hk.1.2) (.int .i64 t369)) (fun _ hk => hk.2) (.int .i64 t370)) (fun _ hk => hk.2) (.int .i64 t371)) (fun _ h_ => h_.1)) (fun _ h_ => h_.1))) hb); replace HO_4 := Aside0.mk (Kd.R_below (by refine zl ?_; exact (Kd.R_mono (Kd.R_mono (Kd.R_far (p := ⟨gb373, 1, none⟩) (Kd.R_far (p := ⟨gb373, 0, none⟩) (Kd.R_far (p := ⟨gb372, 1, none⟩) (Kd.R_far (p := ⟨gb372, 0, none⟩) (Kd.R_mono (Kd.R_mono HO_4.out (fun k_ hk => (⟨hk, hk.1.2⟩ : _ ∧ k_ ≠ gb372))) (fun k_ hk => (⟨hk, hk.1.2⟩ : _ ∧ k_ ≠ gb373))) (fun _ hk => hk.1.2) (.int .i64 t368)) (fun _ hk => hk.1.2) (.int .i64 t369)) (fun _ hk => hk.2) (.int .i64 t370)) (fun _ hk => hk.2) (.int .i64 t371)) (fun _ h_ => h_.1)) (fun _ h_ => h_.1))) hb); replace BK372 := Aside0.mk (blk_below (g := gb372) (o := .cells #[.int .i64 t368, .int .i64 t369] 54 (0, 0)) (by refine zm ?_; refine blk_far ?_ NB372_373.out _; refine zm ?_; refine blk_far ?_ NB372_373.out _; refine zm ?_; refine blk_put (cs := #[.int .i64 t368, .int .i64 0]) ?_ 1 _ rfl; refine zm ?_; refine blk_put (cs := #[.int .i64 0, .int .i64 0]) ?_ 0 _ rfl; refine zm ?_; exact BK372.out) hb); replace BK373 := Aside0.mk (blk_below (g := gb373) (o := .cells #[.int .i64 t370, .int .i64 t371] 54 (0, 0)) (by refine zm ?_; refine blk_put (cs := #[.int .i64 t370, .int .i64 0]) ?_ 1 _ rfl; refine zm ?_; refine blk_put (cs := #[.int .i64 0, .int .i64 0]) ?_ 0 _ rfl; refine zm ?_; refine blk_far ?_ NB373_372.out _; refine zm ?_; refine blk_far ?_ NB373_372.out _; refine zm ?_; exact BK373.out) hb); replace HB := zd hb; (try clear hb); (try clear hk)) | ((with_reducible refine gD 9 rfl ?_); (try (refine gate_guard (by rfl) ?_; dsimp only)); refine zx 9 #[.int .i64 0, .int .i64 0] 54 ?_; intro gb378 hg w39 hbox hb; replace HO_3 := Aside0.mk (Kd.R_below (Kd.R_elderB (zo HO_3.out) gb378 (Nat.le_of_eq hg.symm)) hb); replace HO_4 := Aside0.mk (Kd.R_below (Kd.R_elderB (zo HO_4.out) gb378 (Nat.le_of_eq hg.symm)) hb); have BK378 := Aside0.mk (hbox); have GE378 := zG w hg; replace HB := zd hb; have NB372_378 := zN BK372 hg; have NB378_372 := zM BK372 hg; replace BK372 := zk BK372 hb; have NB373_378 := zN BK373 hg; have NB378_373 := zM BK373 hg; replace BK373 := zk BK373 hb; clear hb hbox hg) | ((with_reducible refine gD 10 rfl ?_); (try (refine gate_guard (by rfl) ?_; dsimp only)); refine zx 10 #[.int .i64 0, .int .i64 0] 54 ?_; intro gb379 hg w40 hbox hb; replace HO_3 := Aside0.mk (Kd.R_below (Kd.R_elderB (zo HO_3.out) gb379 (Nat.le_of_eq hg.symm)) hb); replace HO_4 := Aside0.mk (Kd.R_below (Kd.R_elderB (zo HO_4.out) gb379 (Nat.le_of_eq hg.symm)) hb); have BK379 := Aside0.mk (hbox); have GE379 := zG w hg; replace HB := zd hb; have NB372_379 := zN BK372 hg; have NB379_372 := zM BK372 hg; replace BK372 := zk BK372 hb; have NB373_379 := zN BK373 hg; have NB379_373 := zM BK373 hg; have NB378_379 := zN BK378 hg; have NB379_378 := zM BK378 hg; replace BK378 := zk BK378 hb; clear hb hbox hg; have hnb41 := NB378_372.out; have hnc41 := NB372_378.out; have hnb42 := NB378_373.out; have hnc42 := NB373_378.out; have hnb43 := NB378_379.out; have hnc43 := NB379_378.out; have hcz44_0 : w40.cell? ⟨gb378, 0, none⟩ = some (.int .i64 0) := zy BK378 0; have hcz44_1 : w40.cell? ⟨gb378, 1, none⟩ = some (.int .i64 0) := zy BK378 1; have hfz44_0 := blk_frozen BK378.out 0; have hfz44_1 := blk_frozen BK378.out 1; have hnb45 := NB379_372.out; have hnc45 := NB372_379.out; have hnb46 := NB379_373.out; have hnc46 := NB373_379.out; have hcz47_0 : w40.cell? ⟨gb379, 0, none⟩ = some (.int .i64 0) := zy BK379 0; have hcz47_1 : w40.cell? ⟨gb379, 1, none⟩ = some (.int .i64 0) := zy BK379 1; have hfz47_0 := blk_frozen BK379.out 0; have hfz47_1 := blk_frozen BK379.out 1; have hcz48_0 : w40.cell? ⟨gb372, 0, none⟩ = some (.int .i64 t368) := zy BK372 0; have hcz48_1 : w40.cell? ⟨gb372, 1, none⟩ = some (.int .i64 t369) := zy BK372 1; have hfz48_0 := blk_frozen BK372.out 0; have hfz48_1 := blk_frozen BK372.out 1))
       go_roundg kj5
       case measure => have := HK1.out; have := HJ5.out; omega
       case rel => exact ⟨(decide ((wrap64 ((wrap64 ((wrap64 (t376 - t368)) + t377)) - t369)) ≤ 0)), (wrap64 (x6_1 + 1)), (by first | rfl | (simp; done) | (simp [*]; done)), (by first | rfl | (simp; done) | (simp [*]; done)), H', ⟨by have := HK1.out; have := HJ5.out; omega⟩, ⟨by refine zl ?_; exact Kd.R_mono (Kd.R_far (p := ⟨gb379, 1, none⟩) (Kd.R_far (p := ⟨gb379, 0, none⟩) (Kd.R_far (p := ⟨gb378, 1, none⟩) (Kd.R_far (p := ⟨gb378, 0, none⟩) (Kd.R_mono (Kd.R_mono HO_3.out (fun k_ hk => (⟨hk, hk.1.2⟩ : _ ∧ k_ ≠ gb378))) (fun k_ hk => (⟨hk, hk.1.2⟩ : _ ∧ k_ ≠ gb379))) (fun _ hk => hk.1.2) (.int .i64 t374)) (fun _ hk => hk.1.2) (.int .i64 t375)) (fun _ hk => hk.2) (.int .i64 t376)) (fun _ hk => hk.2) (.int .i64 t377)) (fun _ hk => hk.1.1.1.1.1.1)⟩, ⟨by refine zl ?_; exact Kd.R_mono (Kd.R_far (p := ⟨gb379, 1, none⟩) (Kd.R_far (p := ⟨gb379, 0, none⟩) (Kd.R_far (p := ⟨gb378, 1, none⟩) (Kd.R_far (p := ⟨gb378, 0, none⟩) (Kd.R_mono (Kd.R_mono HO_4.out (fun k_ hk => (⟨hk, hk.1.2⟩ : _ ∧ k_ ≠ gb378))) (fun k_ hk => (⟨hk, hk.1.2⟩ : _ ∧ k_ ≠ gb379))) (fun _ hk => hk.1.2) (.int .i64 t374)) (fun _ hk => hk.1.2) (.int .i64 t375)) (fun _ hk => hk.2) (.int .i64 t376)) (fun _ hk => hk.2) (.int .i64 t377)) (fun _ hk => hk.1.1.1.1.1.1)⟩, ⟨zh⟩⟩
     ·replace c8 := Bool.eq_false_iff.mpr c8
      subst c8
      rw [if_neg (show ¬ (false = true) by decide)] at H
      obtain rfl := Option.some.inj H
      go_wp2
      go_ret
      exact ⟨ze, zh⟩
end Go.Proofs.Ytccjefoejjnccaa.C
