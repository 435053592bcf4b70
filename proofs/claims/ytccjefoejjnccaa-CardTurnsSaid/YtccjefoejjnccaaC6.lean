-- Written by a program of this session (wip/tools/myprint.py, over the kit's print).
import Derived.Test.YtccjefoejjnccaaC0
import Derived.Test.YtccjefoejjnccaaC5
import Derived.Test.YtccjefoejjnccaaZ
namespace Go.Proofs.Ytccjefoejjnccaa.C
open Go.RowKit Go.Proofs.YtccjefoejjnccaaW.PrintWords Go.Proofs.YtccjefoejjnccaaW.PrintLast Go.Proofs.YtccjefoejjnccaaW.PrintMore
attribute [local go_sem] max2_int min2_int max_two min_two max_three min_three max_four min_four   -- for this text's walks alone
set_option linter.unusedVariables false
set_option linter.unusedSimpArgs false
def agoniclaw05_C.l0 : Nat → List (S92) → List (S55) → Int → Option ((List (S92)))
 | 0, _, _, _ => none
 | k + 1, x1, x2, x3 => if x3 < (x2.length : Int) then (if 0 ≤ x3 then (if x1.length < 5864062014805 then (agoniclaw05_C.l0 k (x1 ++ [(⟨(rd_T55 x2 x3).f0, (⟨(rd_T55 x2 x3).f1, (rd_T55 x2 x3).f1⟩ : S90)⟩ : S92)]) x2 (wrap64 (x3 + 1))) else (none)) else (none)) else (if 1 < (x1.length : Int) then (some (x1.set (1 : Int).toNat (⟨(rd_T92 x1 1).f0, (⟨80, 100⟩ : S90)⟩ : S92))) else (none))
def agoniclaw05_C.f (k : Nat)  : Option ((List (S92))) := (agoniclaw05_A.f k).bind fun t164 => (agoniclaw05_C.l0 k (([] : List (S92))) t164 0)
def agoniclaw05_C.T6 : Bool × List (List Nat × List Nat) := (true, [([], []), ([], []), ([], []), ([1, 2], [1, 2]), ([3], [3]), ([4], [4]), ([], []), ([], []), ([6, 7], [6, 7]), ([8], [8]), ([9], [9]), ([], []), ([], []), ([11, 12], [11, 12]), ([13], [13]), ([14], [14]), ([10, 15], [10, 15]), ([5, 16], [5, 16]), ([17], [17]), ([0, 18], [0, 18]), ([19, 19, 0, 1, 2, 3, 4, 5, 6, 7, 8, 9, 10, 11, 12, 13, 14, 15, 16, 17, 18, 19], [0, 19])])
def agoniclaw05_C.B6 : List Nat := [0, 0, 0, 6, 14, 30, 0, 0, 192, 448, 960, 0, 0, 6144, 14336, 30720, 65472, 131070, 262142, 524287, 1048575]
theorem agoniclaw05_C.tab6 : rtab .any (opsOf Try.f50 6) = agoniclaw05_C.T6 := by kernel_rfl
theorem agoniclaw05_C.bits6 : waitsOk agoniclaw05_C.T6.2 agoniclaw05_C.B6 = true := by kernel_rfl
set_option maxHeartbeats 8000000 in
set_option maxRecDepth 100000 in
theorem agoniclaw05_C.calls (k : Nat)  (r : List (S92)) (w : World) (h : agoniclaw05_C.f k  = some r) :
  Calls Try.prog 50 #[] w fun e w' => ∃ v0_ : Value, e = .returned (v0_) ∧ Kd.R k92 92 w' w.heap.size (fun _ => True) v0_ r ∧ Below w.heap.size w w' := by
 have hu90 := Try.underlying90
 have hu92 := Try.underlying92
 have HB := Aside0.mk (Below.refl w.heap.size w)
 have H : ((agoniclaw05_A.f k).bind fun t164 => (agoniclaw05_C.l0 k (([] : List (S92))) t164 0)) = some r := h
 clear h
 obtain ⟨y161, hy161⟩ : ∃ y_ : List (S92), y_ = (([] : List (S92))) := ⟨_, rfl⟩
 replace H : ((agoniclaw05_A.f k).bind fun t164 => (agoniclaw05_C.l0 k y161 t164 0)) = some r := by first | (rw [hy161]; with_reducible exact H) | (have H2_ := (Option.bind_some _ _).symm.trans H; rw [hy161]; with_reducible exact H2_) | (have H2_ := (Option.bind_some _ _).symm.trans H; with_reducible exact H2_) | with_reducible exact H | (rw [hy161]; exact H) | exact H
 have Ny161 := Aside0.mk hy161
 clear hy161
 replace H := zi H
 obtain ⟨t164, A10, H⟩ := H
 try dsimp only at H
 have A1 := Aside0.mk A10
 clear A10
 have H' := Aside0.mk H
 clear H
 go_enter Try.func50, Try.ntmps50
 go_wp2_with (first | ((with_reducible refine gD 4 rfl ?_); refine Kd.R_lit k92 _ 92 ?hg (N := 4) ?hd (xs := ([] : List (S92))) (inner := []) (ok := fun _ => True) (okp := fun _ => True) ?hr ?hp (fun _ hk => hk) trivial (Below.refl _ _) (Nat.le_refl _) (by simp) ?_; (case hd => rfl); (case hg => rfl); (case hr => first | (go_simp; done) | (go_simp; rfl)); (case hp => exact (Reps.none _ _)); intro v162 w2 ho3 hb hg_ hnew_; clear hg_ hnew_; (first | rw [← Ny161.out] at ho3 | (simp only [Int.reduceToNat] at ho3; rw [← Ny161.out] at ho3)); have HO163 := Aside0.mk (Kd.R_lower ho3 (below_size zh)); replace HB := zd hb; clear hb ho3) | ((with_reducible refine gC 48 rfl ?_); refine gL 5 Try.func48 #[] ?_; (with_reducible refine (agoniclaw05_A.calls k  t164 _ A1.out).mono ?_); rintro e w4 ⟨v165, rfl, ho0, hb⟩; refine ⟨_, rfl, ?_⟩; replace HO163 := zr HO163 hb; have HO166 := Aside0.mk (Kd.R_lower ho0 (below_size zh)); replace HB := zd hb; (try clear hb); (try clear ho0)))
 go_loopg [1, 3] k (fun kq v1 v3 w' => ∃ (x1_1 : List (S92)) (x3_1 : Int), v3 = .int .i64 x3_1 ∧ Aside0 (agoniclaw05_C.l0 kq x1_1 t164 x3_1 = some r) ∧ Aside0 (kq ≤ k) ∧ Aside0 (Kd.R k92 92 w' w.heap.size (fun _ => True) v1 x1_1) ∧ Aside0 (Kd.R k55 55 w' w.heap.size (fun _ => True) v165 t164) ∧ Aside0 (Below w.heap.size w w'))
 case atStart => exact ⟨(y161), (0), (by first | rfl | (simp; done) | (simp [*]; done)), H', ⟨Nat.le_refl _⟩, ⟨by refine zl ?_; exact HO163.out⟩, ⟨by refine zl ?_; exact HO166.out⟩, ⟨zh⟩⟩
 case round =>
  clear H'
  try clear p2
  try clear c4
  obtain ⟨x1_1, x3_1, rfl, HA, HK1, HO_1, HO_2, HB⟩ := hrel
  cases gk with
  | zero => exact absurd HA.out (by simp [agoniclaw05_C.l0])
  | succ k1 =>
   have H := HA.out
   clear HA
   simp only [agoniclaw05_C.l0] at H
   by_cases c5 : x3_1 < (t164.length : Int)
   ·rw [if_pos c5] at H
    have c5b0 : decide (x3_1 < (t164.length : Int)) = true := decide_eq_true c5
    clear c5
    by_cases c6 : 0 ≤ x3_1
    ·rw [if_pos c6] at H
     have c6b0 : decide (0 ≤ x3_1) = true := decide_eq_true c6
     clear c6
     by_cases c7 : x1_1.length < 5864062014805
     ·rw [if_pos c7] at H
      have LMc7 := Aside0.mk c7
      clear c7
      obtain ⟨y170, hy170⟩ : ∃ y_ : List (S92), y_ = (x1_1 ++ [(⟨(rd_T55 t164 x3_1).f0, (⟨(rd_T55 t164 x3_1).f1, (rd_T55 t164 x3_1).f1⟩ : S90)⟩ : S92)]) := ⟨_, rfl⟩
      replace H : (agoniclaw05_C.l0 k1 y170 t164 (wrap64 (x3_1 + 1))) = some r := by first | (rw [hy170]; with_reducible exact H) | (have H2_ := (Option.bind_some _ _).symm.trans H; rw [hy170]; with_reducible exact H2_) | (have H2_ := (Option.bind_some _ _).symm.trans H; with_reducible exact H2_) | with_reducible exact H | (rw [hy170]; exact H) | exact H
      have Ny170 := Aside0.mk hy170
      clear hy170
      have H' := Aside0.mk H
      clear H
      obtain ⟨Ao8, co8, eo8⟩ := Kd.R_slice HO_2.out
      subst eo8
      try go_wp2
      replace HO_1 := Aside0.mk (Kd.R_drew HO_1.out)
      replace HO_2 := Aside0.mk (Kd.R_drew HO_2.out)
      replace HB := Aside0.mk (below_drew1 HB.out)
      have p167 : 0 ≤ (x3_1 : Int) := zp
      have q167 : x3_1 < (t164.length : Int) := zp
      obtain ⟨ad167, e167, hx167_0, hx167_1⟩ := at_T55 (Kd.R_reads' HO_2.out).2.2 x3_1 p167 q167
      cases e167
      replace p167 := eq_true p167
      replace q167 := eq_true q167
      have p168 : 0 ≤ (x3_1 : Int) := zp
      have q168 : x3_1 < (t164.length : Int) := zp
      obtain ⟨ad168, e168, hx168_0, hx168_1⟩ := at_T55 (Kd.R_reads' HO_2.out).2.2 x3_1 p168 q168
      obtain rfl : ad167 = ad168 := (by injection e168)
      replace p168 := eq_true p168
      replace q168 := eq_true q168
      have p169 : 0 ≤ (x3_1 : Int) := zp
      have q169 : x3_1 < (t164.length : Int) := zp
      obtain ⟨ad169, e169, hx169_0, hx169_1⟩ := at_T55 (Kd.R_reads' HO_2.out).2.2 x3_1 p169 q169
      obtain rfl : ad167 = ad169 := (by injection e169)
      replace p169 := eq_true p169
      replace q169 := eq_true q169
      refine start_ (n := 21) (S := fun w' => w'.cell? (ad167.add ((x3_1).toNat * 2)) = some (.int .i64 ((rd_T55 t164 x3_1).f0)) ∧ w'.cell? ⟨(ad167.add ((x3_1).toNat * 2)).block, (ad167.add ((x3_1).toNat * 2)).off + 1, none⟩ = some (.int .i64 ((rd_T55 t164 x3_1).f1)) ∧ w'.cell? (ad167.add ((x3_1).toNat * 2)) = some (.int .i64 ((rd_T55 t164 x3_1).f0)) ∧ w'.cell? ⟨(ad167.add ((x3_1).toNat * 2)).block, (ad167.add ((x3_1).toNat * 2)).off + 1, none⟩ = some (.int .i64 ((rd_T55 t164 x3_1).f1)) ∧ w'.cell? (ad167.add ((x3_1).toNat * 2)) = some (.int .i64 ((rd_T55 t164 x3_1).f0)) ∧ w'.cell? ⟨(ad167.add ((x3_1).toNat * 2)).block, (ad167.add ((x3_1).toNat * 2)).off + 1, none⟩ = some (.int .i64 ((rd_T55 t164 x3_1).f1))) (ds := [18, 19]) #[false, false, false, false, false, false, false, false, false, false, false, false, false, false, false, false, false, false, false, false, false] (by kernel_rfl) rfl rfl ⟨hx167_0, hx167_1, hx168_0, hx168_1, hx169_0, hx169_1⟩ (fun hHeld => ?_); refine with_tabW agoniclaw05_C.tab6 agoniclaw05_C.bits6 (fun HT_ HW_ => ?_)
      generalize wr.drew = w9 at HO_1 HO_2 HB hx167_0 hx167_1 hx168_0 hx168_1 hx169_0 hx169_1 hHeld ⊢
      refine pq HT_ 0 12 21 1 ?_
      refine pq HT_ 1 13 21 3 ?_
      refine pq HT_ 2 14 21 7 ?_
      refine pq HT_ 3 15 21 15 ?_
      refine pq HT_ 4 16 21 31 ?_
      refine pq HT_ 6 18 21 95 ?_
      refine pq HT_ 7 19 21 223 ?_
      refine pq HT_ 8 20 21 479 ?_
      refine pq HT_ 9 21 21 991 ?_
      refine pq HT_ 11 23 21 3039 ?_
      refine pq HT_ 12 24 21 7135 ?_
      refine pq HT_ 13 25 21 15327 ?_
      refine pq HT_ 14 26 21 31711 ?_
      refine take_ (i := 5) (N := some 17) (v := ?_) (a' := ?_) #[true, true, true, true, true, true, true, true, true, true, false, true, true, true, true, false, false, false, false, false, false] rfl rfl (take_ofW HT_.out HW_.out (by kernel_rfl)) (fun _ _ _ h => h) (Or.inl ⟨by rfl, ?_⟩) hHeld ?_ ?_
      rotate_left
      ·rintro w' ⟨s0, s1, s2, s3, s4, s5⟩
       go_simp
       with_reducible rfl
      rotate_left
      ·simp only [Act.put, List.setIfInBounds_toArray, List.set_cons_zero, List.set_cons_succ, i64_w, i32_w]
       rfl
      refine take_ (i := 10) (N := some 22) (v := ?_) (a' := ?_) #[true, true, true, true, true, true, true, true, true, true, true, true, true, true, true, false, false, false, false, false, false] rfl rfl (take_ofW HT_.out HW_.out (by kernel_rfl)) (fun _ _ _ h => h) (Or.inl ⟨by rfl, ?_⟩) hHeld ?_ ?_
      rotate_left
      ·rintro w' ⟨s0, s1, s2, s3, s4, s5⟩
       go_simp
       with_reducible rfl
      rotate_left
      ·simp only [Act.put, List.setIfInBounds_toArray, List.set_cons_zero, List.set_cons_succ, i64_w, i32_w]
       rfl
      refine take_ (i := 15) (N := some 27) (v := ?_) (a' := ?_) #[true, true, true, true, true, true, true, true, true, true, true, true, true, true, true, true, false, false, false, false, false] rfl rfl (take_ofW HT_.out HW_.out (by kernel_rfl)) (fun _ _ _ h => h) (Or.inl ⟨by rfl, ?_⟩) hHeld ?_ ?_
      rotate_left
      ·rintro w' ⟨s0, s1, s2, s3, s4, s5⟩
       go_simp
       with_reducible rfl
      rotate_left
      ·simp only [Act.put, List.setIfInBounds_toArray, List.set_cons_zero, List.set_cons_succ, i64_w, i32_w]
       rfl
      refine pq HT_ 16 28 21 131071 ?_
      refine pq HT_ 17 29 21 262143 ?_
      refine last_ (i := 18) (N := some 30) #[true, true, true, true, true, true, true, true, true, true, true, true, true, true, true, true, true, true, true, false, false] rfl rfl (one_of HT_.out (by kernel_rfl)) (by decide) (fun K hK => ?_)
      refine value_ (w1 := ?_) (v := ?_) (by rfl) rfl ?_ ?_
      rotate_left 2
      ·go_simp
       constructor
       ·rfl
       ·rfl
      refine hK.out _ _ ?_
      clear hK K
      refine norm_ (a' := ?_) ?_ ?_
      rotate_left
      ·show Act.put _ (some 30) _ = _
       simp only [Act.put, List.setIfInBounds_toArray, List.set_cons_zero, List.set_cons_succ, i64_w, i32_w]
       rfl
      refine last_ (i := 19) (N := some 31) #[true, true, true, true, true, true, true, true, true, true, true, true, true, true, true, true, true, true, true, true, false] rfl rfl (one_of HT_.out (by kernel_rfl)) (by decide) (fun K hK => ?_)
      refine Kd.R_append_step k92 (w0 := w) w.heap.size (by rfl) (.tmp 12) (.tmp 30) 60 92 (.agg #[(.int .i64 0), (.int .i64 0), (.int .i64 0)]) 24 rfl Try.underlying60 info92 rfl (by decide) (by omega) u1 x1_1 (⟨(rd_T55 t164 x3_1).f0, (⟨(rd_T55 t164 x3_1).f1, (rd_T55 t164 x3_1).f1⟩ : S90)⟩ : S92) [.int .i64 ((rd_T55 t164 x3_1).f0), .int .i64 ((rd_T55 t164 x3_1).f1), .int .i64 ((rd_T55 t164 x3_1).f1)] (fun _ => True) (fun _ => False) rfl rfl ?aP (fun _ hk => hk.elim) ?aF ?aO ?aB ?aS ?aL ?_
      (case aP => exact k92_mkM _ _ _ (⟨(rd_T55 t164 x3_1).f0, (⟨(rd_T55 t164 x3_1).f1, (rd_T55 t164 x3_1).f1⟩ : S90)⟩ : S92))
      (case aB => exact zh)
      (case aF => exact (fun _ _ => trivial))
      (case aO => exact (zo HO_1.out))
      (case aS => exact (below_size zh))
      (case aL => have := LMc7.out; omega)
      intro v171 w10 ho hb hg hat
      rw [← Ny170.out] at ho
      replace HO_2 := Aside0.mk (Kd.R_over' (zo HO_2.out) (Kd.R_typed (zo HO_1.out)) (by decide) hg)
      replace HB := Aside0.mk (hb)
      have HO172 := Aside0.mk (ho)
      clear HO_1
      clear ho hb hg hat
      refine hK.out _ _ ?_
      clear hK K
      refine norm_ (a' := ?_) ?_ ?_
      rotate_left
      ·show Act.put _ (some 31) _ = _
       simp only [Act.put, List.setIfInBounds_toArray, List.set_cons_zero, List.set_cons_succ, i64_w, i32_w]
       rfl
      refine pq HT_ 20 1 21 2097151 ?_
      refine done_ (done_of HT_.out (by kernel_rfl)) ?_
      try go_wp2
      go_roundg k1
      case measure => have := HK1.out; omega
      case rel => exact ⟨(y170), (wrap64 (x3_1 + 1)), (by first | rfl | (simp; done) | (simp [*]; done)), H', ⟨by have := HK1.out; omega⟩, ⟨by refine zl ?_; exact HO172.out⟩, ⟨by refine zl ?_; exact HO_2.out⟩, ⟨zh⟩⟩
     ·rw [if_neg c7] at H
      exact absurd H (by simp)
    ·rw [if_neg c6] at H
     exact absurd H (by simp)
   ·rw [if_neg c5] at H
    have c5b0 : decide (x3_1 < (t164.length : Int)) = false := decide_eq_false c5
    clear c5
    by_cases c11 : 1 < (x1_1.length : Int)
    ·rw [if_pos c11] at H
     have c11b0 : decide (1 < (x1_1.length : Int)) = true := decide_eq_true c11
     have c11b1 : decide (1 < x1_1.length) = true := decide_eq_true (by omega)
     clear c11
     obtain ⟨y173, hy173⟩ : ∃ y_ : List (S92), y_ = (x1_1.set (1 : Int).toNat (⟨(rd_T92 x1_1 1).f0, (⟨80, 100⟩ : S90)⟩ : S92)) := ⟨_, rfl⟩
     replace H : (some y173) = some r := by first | (rw [hy173]; with_reducible exact H) | (have H2_ := (Option.bind_some _ _).symm.trans H; rw [hy173]; with_reducible exact H2_) | (have H2_ := (Option.bind_some _ _).symm.trans H; with_reducible exact H2_) | with_reducible exact H | (rw [hy173]; exact H) | exact H
     have Ny173 := Aside0.mk hy173
     clear hy173
     obtain rfl := Option.some.inj H
     obtain ⟨Ao13, co13, eo13⟩ := Kd.R_slice HO_2.out
     subst eo13
     have p12 : 0 ≤ (1 : Int) := (by omega)
     have q12 : (1 : Int) < ((x1_1.length : Int) : Int) := zp
     have qi12 : (1 < x1_1.length) = True := eq_true (by omega)
     obtain ⟨go12, co12, eo12, gb12, gl12, cl12, HG12⟩ := Kd.R_form HO_1.out (by omega)
     (first | cases eo12 | (injection eo12 with ea_ en_ ec_; (first | subst ea_ | (injection ea_ with ea_; subst ea_)); subst ec_; clear en_))
     have GB12 := Aside0.mk gb12
     have GG12 := Aside0.mk HG12
     clear gb12 gl12 HG12
     obtain ⟨ce12, hcl12, hM12, hcc12, hfr12⟩ := Kd.R_elem HO_1.out z92 (1 : Int) p12 q12
     obtain rfl := k92_openM hM12
     have hx12_0 : wr.cell? ⟨go12, (1 : Int).toNat * 3, none⟩ = some (.int .i64 ((rd_T92 x1_1 1).f0)) := hcc12 0 _ rfl
     have hx12_1 : wr.cell? ⟨go12, (1 : Int).toNat * 3 + 1, none⟩ = some (.int .i64 ((rd_T92 x1_1 1).f1.f0)) := hcc12 1 _ rfl
     have hx12_2 : wr.cell? ⟨go12, (1 : Int).toNat * 3 + 2, none⟩ = some (.int .i64 ((rd_T92 x1_1 1).f1.f1)) := hcc12 2 _ rfl
     have hf12_0 : wr.frozen? ⟨go12, (1 : Int).toNat * 3, none⟩ = false := hfr12 0
     have hf12_1 : wr.frozen? ⟨go12, (1 : Int).toNat * 3 + 1, none⟩ = false := hfr12 1
     have hf12_2 : wr.frozen? ⟨go12, (1 : Int).toNat * 3 + 2, none⟩ = false := hfr12 2
     clear hcl12 hcc12 hfr12 hM12
     (try rw [show ((1 : Int)).toNat = 1 from rfl] at hx12_0)
     (try simp only [Nat.reduceMul, Nat.zero_mul, Nat.zero_add, Nat.reduceAdd] at hx12_0)
     (try rw [show ((1 : Int)).toNat = 1 from rfl] at hf12_0)
     (try simp only [Nat.reduceMul, Nat.zero_mul, Nat.zero_add, Nat.reduceAdd] at hf12_0)
     (try rw [show ((1 : Int)).toNat = 1 from rfl] at hx12_1)
     (try simp only [Nat.reduceMul, Nat.zero_mul, Nat.zero_add, Nat.reduceAdd] at hx12_1)
     (try rw [show ((1 : Int)).toNat = 1 from rfl] at hf12_1)
     (try simp only [Nat.reduceMul, Nat.zero_mul, Nat.zero_add, Nat.reduceAdd] at hf12_1)
     (try rw [show ((1 : Int)).toNat = 1 from rfl] at hx12_2)
     (try simp only [Nat.reduceMul, Nat.zero_mul, Nat.zero_add, Nat.reduceAdd] at hx12_2)
     (try rw [show ((1 : Int)).toNat = 1 from rfl] at hf12_2)
     (try simp only [Nat.reduceMul, Nat.zero_mul, Nat.zero_add, Nat.reduceAdd] at hf12_2)
     replace p12 := eq_true p12
     replace q12 := eq_true q12
     have HX14 := Aside0.mk (show Kd.R k92 92 wr w.heap.size (fun _ => True) (.slice (some ⟨go12, 0, none⟩) x1_1.length co12) x1_1 from (zo HO_1.out))
     obtain ⟨ce14, hcl14, hM14, hcc14, hfr14⟩ := Kd.R_elem HX14.out z92 (1 : Int) (by omega) (by have h_ : (1 : Int) < ((x1_1.length : Int) : Int) := zp; first | exact h_ | (have e_ := (Kd.R_reads' HO_1.out).1; omega) | simpa using h_)
     obtain rfl := k92_openM hM14
     have HP14 := Kd.R_seg HX14.out (1 : Int) (by omega) (by have h_ : (1 : Int) < ((x1_1.length : Int) : Int) := zp; first | exact h_ | (have e_ := (Kd.R_reads' HO_1.out).1; omega) | simpa using h_) (seg := [.int .i64 80, .int .i64 100]) (j := 1) hcl14 hcc14 (show 3 ≤ 3 from by decide) (x' := (⟨(rd_T92 x1_1 1).f0, (⟨80, 100⟩ : S90)⟩ : S92)) (k92_mkM _ _ _ (⟨(rd_T92 x1_1 1).f0, (⟨80, 100⟩ : S90)⟩ : S92) ) (fun _ hk => hk)
     have hx14_1 := hcc14 1 _ rfl
     (try simp only [show (k92).sz = 3 from rfl, Nat.mul_one, Nat.add_zero] at hx14_1)
     (try rw [show ((1 : Int)).toNat = 1 from rfl] at hx14_1)
     (try simp only [Nat.reduceMul, Nat.zero_mul, Nat.zero_add, Nat.reduceAdd] at hx14_1)
     have hf14_1 := hfr14 1
     (try simp only [show (k92).sz = 3 from rfl, Nat.mul_one, Nat.add_zero] at hf14_1)
     (try rw [show ((1 : Int)).toNat = 1 from rfl] at hf14_1)
     (try simp only [Nat.reduceMul, Nat.zero_mul, Nat.zero_add, Nat.reduceAdd] at hf14_1)
     have hx14_2 := hcc14 2 _ rfl
     (try simp only [show (k92).sz = 3 from rfl, Nat.mul_one, Nat.add_zero] at hx14_2)
     (try rw [show ((1 : Int)).toNat = 1 from rfl] at hx14_2)
     (try simp only [Nat.reduceMul, Nat.zero_mul, Nat.zero_add, Nat.reduceAdd] at hx14_2)
     have hf14_2 := hfr14 2
     (try simp only [show (k92).sz = 3 from rfl, Nat.mul_one, Nat.add_zero] at hf14_2)
     (try rw [show ((1 : Int)).toNat = 1 from rfl] at hf14_2)
     (try simp only [Nat.reduceMul, Nat.zero_mul, Nat.zero_add, Nat.reduceAdd] at hf14_2)
     clear hcl14 hcc14 hfr14 hM14
     go_wp2_with (first | ((with_reducible refine gate_store (t := 90) (p := 35) rfl ?_); refine store_event (t := 90) (p := 35) (v := ?vo_w15) (w1 := ((wr.setCell ⟨go12, 4, none⟩ (.int .i64 80)).setCell ⟨go12, 5, none⟩ (.int .i64 100))) ?hg ?ho ?hn ?hr ?_; (case ho => rfl); (case hg => rfl); (case hn => rfl); (case hr => first | (go_simp; done) | (go_simp; rfl)); intro w15 hw; have hg : wr.grownBy w15 (some go12) := (by rw [hw]; exact HP14.2); have hp_ : Kd.R k92 92 w15 w.heap.size (fun _ => True) (.slice (some ⟨go12, 0, none⟩) x1_1.length co12) y173 := (by rw [hw, Ny173.out]; exact HP14.1); clear HP14; replace HO_1 := Aside0.mk (hp_); replace HB := Aside0.mk ((by rw [hw]; exact below_set (below_set (HB.out) GB12.out) GB12.out : Below w.heap.size w w15)); clear hg hw hp_))
     go_ret
     exact ⟨_, ze, by refine zl ?_; exact HO_1.out, zh⟩
    ·rw [if_neg c11] at H
     exact absurd H (by simp)
end Go.Proofs.Ytccjefoejjnccaa.C
