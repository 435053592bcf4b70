/- What is proved here: the iterator over a card's segments yields them all in order, or a beginning of them; for every card that is read. -/
import Derived.Test.YtccjefoejjnccaaC0
import Derived.Test.YtccjefoejjnccaaH0
import Derived.Test.YtccjefoejjnccaaZ
namespace Go.Proofs.Ytccjefoejjnccaa.H
open Go.RowKit Go.Proofs.Ytccjefoejjnccaa.C Go.Proofs.YtccjefoejjnccaaH Go.Proofs.YtccjefoejjnccaaW.PrintWords Go.Proofs.YtccjefoejjnccaaW.PrintLast Go.Proofs.YtccjefoejjnccaaW.PrintMore
attribute [local go_sem] Oper.semAt_some
/-- The segment that begins at point i. -/
def seg (l : List S55) (i : Nat) : S55 × S55 :=
  (rd_T55 l (i : Int), if i + 1 = l.length then ⟨wrap64 ((rd_T55 l 0).f0 + 3600), (rd_T55 l 0).f1⟩ else rd_T55 l ((i : Int) + 1))
def segs (l : List S55) : List (S55 × S55) := (List.range l.length).map (seg l)
def encSeg (x : S55 × S55) : Array Value := #[.agg #[.int .i64 x.1.f0, .int .i64 x.1.f1], .agg #[.int .i64 x.2.f0, .int .i64 x.2.f1]]
def upto (l : List S55) (k : Nat) : List (S55 × S55) := (List.range k).map (seg l)
theorem upto_succ (l : List S55) (k : Nat) : upto l (k + 1) = upto l k ++ [seg l k] := by simp [upto, List.range_succ]
theorem upto_length (l : List S55) (k : Nat) : (upto l k).length = k := by simp [upto]
theorem upto_prefix (l : List S55) {k : Nat} (hk : k ≤ l.length) : upto l k <+: segs l := by
  rw [List.prefix_iff_eq_take, upto_length]
  unfold upto segs
  rw [← List.map_take, List.take_range, Nat.min_eq_left hk]
def KpS (n₀ Bs : Nat) (W W' : World) : Prop := Below n₀ W W' ∧ W'.heap[Bs]? = W.heap[Bs]?
theorem KpS.refl (n₀ Bs : Nat) (W : World) : KpS n₀ Bs W W := ⟨Below.refl _ _, rfl⟩
theorem KpS.trans {n₀ Bs : Nat} {A B C : World} (h : KpS n₀ Bs A B) (k : KpS n₀ Bs B C) : KpS n₀ Bs A C := ⟨h.1.trans k.1, k.2.trans h.2⟩
theorem KpS.cell {n₀ Bs : Nat} {A B : World} (h : KpS n₀ Bs A B) : B.cell? ⟨Bs, 0, none⟩ = A.cell? ⟨Bs, 0, none⟩ := World.cell?_of_block (w := A) h.2
theorem add_zero_ (ad : Addr) : ad.add 0 = ad := rfl
theorem grown_of_below {w w' : World} (h : Below w.heap.size w w') : w.grownBy w' none := ⟨h.os, h.tape, h.output, h.size, fun k hk _ => h.block k hk⟩
set_option linter.unusedSimpArgs false
set_option linter.unusedVariables false
set_option maxRecDepth 100000 in
set_option maxHeartbeats 2000000 in
theorem segments1_in (n : Nat) (l Bs n₀ : Nat) (A0 : Option Addr) (c0 : Nat) (l0 : List S55) (hlen : l0.length ≤ 140737488351232) (J Jx : List (S55 × S55) → World → Prop)
    (hJd : ∀ s W W', J s W → W.grownBy W' none → J s W')
    (hY : ∀ pre x W, J pre W → x ∈ segs l0 → pre.length < l0.length → YieldAt Fence.wide (n - 1) Try.prog l (encSeg x) W fun e W' =>
      (e = .returned (.bool true) ∧ J (pre ++ [x]) W' ∧ KpS n₀ Bs W W') ∨ (e = .returned (.bool false) ∧ Jx (pre ++ [x]) W'))
    (W : World) (hn0 : n₀ ≤ W.heap.size) (hBn : Bs < W.heap.size) (hBs : W.cell? ⟨Bs, 0, none⟩ = some (.slice A0 l0.length c0)) (hr0 : Kd.C k55 W A0 l0.length l0) (hc0 : l0.length ≤ c0)
    (hbl : ∀ ad, A0 = some ad → 0 < l0.length → ad.block < n₀) (h0 : J [] W) :
    CallsIn Fence.wide n Try.prog 97 #[.func (.yield l) #[] #[], .pointer (some ⟨Bs, 0, none⟩)] W fun e W' => (∃ v, e = .returned v) ∧
      ((∃ ys, ys = segs l0 ∧ J ys W') ∨ (∃ pre, pre <+: segs l0 ∧ Jx pre W')) := by
  have hu55 := Try.underlying55
  refine callsIn_of_wp Try.func97 rfl trivial ?_ rfl
  simp only [Try.ntmps97, List.size_toArray, List.length_cons, List.length_nil, Nat.reduceAdd, Nat.reduceSub, Array.replicate_succ, Array.replicate_zero, List.push_toArray, List.append_toArray, List.nil_append, List.cons_append]
  gi_wp2
  gi_loopw [8] (fun i wr => ∃ k : Nat, k ≤ l0.length ∧ i = .int .i64 k ∧ J (upto l0 k) wr ∧ KpS n₀ Bs W wr)
    (fun i _ => l0.length - (intOf i).toNat)
  case atStart => exact ⟨0, Nat.zero_le _, rfl, h0, KpS.refl _ _ _⟩
  case round =>
    obtain ⟨k, hk, rfl, hJs, hnx⟩ := hrel
    by_cases hlt : k < l0.length
    · obtain ⟨ad, hA, hx0, hx1⟩ := at_T55 hr0 (k : Int) (by omega) (by omega)
      cases hA
      have hb := hbl ad rfl (by omega)
      rw [Int.toNat_natCast] at hx0 hx1
      have hx0' : wr.cell? (ad.add (k * 2)) = some (.int .i64 (rd_T55 l0 k).f0) := (hnx.1.cell (p := ad.add (k * 2)) (by simpa [add_block] using hb)).trans hx0
      have hx1' : wr.cell? ⟨(ad.add (k * 2)).block, (ad.add (k * 2)).off + 1, none⟩ = some (.int .i64 (rd_T55 l0 k).f1) := (hnx.1.cell (p := ⟨(ad.add (k * 2)).block, (ad.add (k * 2)).off + 1, none⟩) (by simpa [add_block] using hb)).trans hx1
      have hbs' := hnx.cell.trans hBs
      have hszw : n₀ ≤ wr.heap.size := Nat.le_trans hn0 hnx.1.size
      have hBw : Bs < wr.heap.size := Nat.lt_of_lt_of_le hBn hnx.1.size
      by_cases hl1 : k + 1 < l0.length
      · have hm : ((k : Int) + 1).tmod (l0.length : Int) = (k : Int) + 1 := Int.tmod_eq_of_lt (by omega) (by omega)
        have hw1 : wrap64 ((k : Int) + 1) = (k : Int) + 1 := by unfold wrap64; omega
        have hi0 : (0 ≤ (k : Int) + 1) = True := eq_true (by omega)
        have hi1 : ((k : Int) + 1 < (l0.length : Int)) = True := eq_true (by omega)
        have hne : (l0 = []) = False := by simp; intro e; rw [e] at hlt; simp at hlt
        obtain ⟨ad', hA', hz0, hz1⟩ := at_T55 hr0 ((k : Int) + 1) (by omega) (by omega)
        cases hA'
        rw [show ((k : Int) + 1).toNat = k + 1 by omega] at hz0 hz1
        have hx0n := (hnx.1.cell (p := ad.add ((k + 1) * 2)) (by simpa [add_block] using hb)).trans hz0
        have hx1n := (hnx.1.cell (p := ⟨(ad.add ((k + 1) * 2)).block, (ad.add ((k + 1) * 2)).off + 1, none⟩) (by simpa [add_block] using hb)).trans hz1
        gi_wp2
        have hB1 := (Below.alloc (Below.refl n₀ wr) hszw (Obj.cells #[Value.int IntKind.i64 (rd_T55 l0 ↑k).f0, Value.int IntKind.i64 (rd_T55 l0 ↑k).f1] 55)).drew
        have hB1' := (Below.alloc (Below.refl wr.heap.size wr) (Nat.le_refl _) (Obj.cells #[Value.int IntKind.i64 (rd_T55 l0 ↑k).f0, Value.int IntKind.i64 (rd_T55 l0 ↑k).f1] 55)).drew
        have hbs2 := (hB1'.cell (p := ⟨Bs, 0, none⟩) hBw).trans hbs'
        have hy0 := (hB1.cell (p := ad.add ((k + 1) * 2)) (by simpa [add_block] using hb)).trans hx0n
        have hy1 := (hB1.cell (p := ⟨(ad.add ((k + 1) * 2)).block, (ad.add ((k + 1) * 2)).off + 1, none⟩) (by simpa [add_block] using hb)).trans hx1n
        refine wpIn_wide.2 ?_
        refine start_ (n := 10) (S := fun w' => w'.cell? ⟨Bs, 0, none⟩ = some (.slice (some ad) l0.length c0) ∧ w'.cell? (ad.add ((k + 1) * 2)) = some (.int .i64 (rd_T55 l0 ((k : Int) + 1)).f0) ∧ w'.cell? ⟨(ad.add ((k + 1) * 2)).block, (ad.add ((k + 1) * 2)).off + 1, none⟩ = some (.int .i64 (rd_T55 l0 ((k : Int) + 1)).f1)) (ds := [9]) #[false, false, false, false, false, false, false, false, false, false] (by kernel_rfl) rfl rfl ⟨hbs2, hy0, hy1⟩ (fun hHeld => ?_)
        refine pz (i := 1) (N := some 14) (zA 10 2) rfl rfl (by kernel_rfl) ?_
        refine pz (i := 2) (N := some 15) (zA 10 6) rfl rfl (by kernel_rfl) ?_
        refine take_ (i := 0) (N := some 13) (v := ?_) (a' := ?_) #[true, true, true, false, false, false, false, false, false, false] rfl rfl (by kernel_rfl) (fun _ _ _ h => h) (Or.inl ⟨by rfl, ?_⟩) hHeld ?_ ?_
        rotate_left
        · rintro w' ⟨s0, s1, s2⟩
          go_simp
          with_reducible rfl
        rotate_left
        · simp only [Act.put, List.setIfInBounds_toArray, List.set_cons_zero, List.set_cons_succ, i64_w, i32_w]
          rfl
        refine take_ (i := 3) (N := some 16) (v := ?_) (a' := ?_) #[true, true, true, true, false, false, false, false, false, false] rfl rfl (by kernel_rfl) (fun _ _ _ h => h) (Or.inl ⟨by rfl, ?_⟩) hHeld ?_ ?_
        rotate_left
        · rintro w' ⟨s0, s1, s2⟩
          go_simp
          with_reducible rfl
        rotate_left
        · simp only [Act.put, List.setIfInBounds_toArray, List.set_cons_zero, List.set_cons_succ, i64_w, i32_w]
          rfl
        refine pz (i := 4) (N := some 17) (zA 10 31) rfl rfl (by kernel_rfl) ?_
        refine pz (i := 5) (N := some 18) (zA 10 63) rfl rfl (by kernel_rfl) ?_
        refine pz (i := 6) (N := some 19) (zA 10 127) rfl rfl (by kernel_rfl) ?_
        refine take_ (i := 7) (N := some 20) (v := ?_) (a' := ?_) #[true, true, true, true, true, true, true, true, false, false] rfl rfl (by kernel_rfl) (fun _ _ _ h => h) (Or.inl ⟨by rfl, ?_⟩) hHeld ?_ ?_
        rotate_left
        · rintro w' ⟨s0, s1, s2⟩
          go_simp
          with_reducible rfl
        rotate_left
        · simp only [Act.put, List.setIfInBounds_toArray, List.set_cons_zero, List.set_cons_succ, i64_w, i32_w]
          rfl
        refine one_ (i := 8) (N := some 5) #[true, true, true, true, true, true, true, true, true, false] rfl rfl (by kernel_rfl) (by decide) (fun K hK => ?_)
        refine value_ (w1 := ?_) (v := ?_) (by rfl) rfl ?_ ?_
        rotate_left 2
        · go_simp
          constructor
          · rfl
          · rfl
        refine hK.out _ _ ⟨(Below.cell (B := wr.heap.size) ((Below.refl _ _).alloc (by simp <;> omega) _) (by simpa [add_block] using hBw)).trans hHeld.1, (Below.cell (B := n₀) ((Below.refl _ _).alloc (by simp <;> omega) _) (by simpa [add_block] using hb)).trans hHeld.2.1, (Below.cell (B := n₀) ((Below.refl _ _).alloc (by simp <;> omega) _) (by simpa [add_block] using hb)).trans hHeld.2.2⟩ (fun hHeld => ?_)
        clear hK K
        refine norm_ (a' := ?_) ?_ ?_
        rotate_left
        · show Act.put _ (some 5) _ = _
          simp only [Act.put, List.setIfInBounds_toArray, List.set_cons_zero, List.set_cons_succ, i64_w, i32_w]
          rfl
        refine last_ (i := 9) (N := none) #[true, true, true, true, true, true, true, true, true, true] rfl rfl (by kernel_rfl) (by decide) (fun K hK => ?_)
        refine skip_ (w1 := ?_) (by rfl) rfl ?_ ?_
        rotate_left
        · go_simp
          rfl
        refine hK.out _ _ ?_
        clear hK K
        refine done_ (by kernel_rfl) ?_
  
        clear hbs2 hy0 hy1
        have hBs3 : (World.drew ((wr.alloc (Obj.cells #[Value.int IntKind.i64 (rd_T55 l0 ↑k).f0, Value.int IntKind.i64 (rd_T55 l0 ↑k).f1] 55)).alloc (Obj.cells #[Value.int IntKind.i64 (rd_T55 l0 (↑k + 1)).f0, Value.int IntKind.i64 (rd_T55 l0 (↑k + 1)).f1] 55))).cell? ⟨Bs, 0, none⟩ = some (.slice (some ad) l0.length c0) := (Below.cell (p := ⟨Bs, 0, none⟩) (B := wr.heap.size) (w := wr) (((Below.refl _ wr).alloc (Nat.le_refl _) _).alloc (by simp) _).drew hBw).trans hbs'
        have hbl2 : Below wr.heap.size wr (World.drew ((wr.alloc (Obj.cells #[Value.int IntKind.i64 (rd_T55 l0 ↑k).f0, Value.int IntKind.i64 (rd_T55 l0 ↑k).f1] 55)).alloc (Obj.cells #[Value.int IntKind.i64 (rd_T55 l0 (↑k + 1)).f0, Value.int IntKind.i64 (rd_T55 l0 (↑k + 1)).f1] 55))) := (((Below.refl _ wr).alloc (Nat.le_refl _) _).alloc (by simp) _).drew
        have hBs2 : (World.drew ((wr.alloc (Obj.cells #[Value.int IntKind.i64 (rd_T55 l0 ↑k).f0, Value.int IntKind.i64 (rd_T55 l0 ↑k).f1] 55)).alloc (Obj.cells #[Value.int IntKind.i64 (rd_T55 l0 (↑k + 1)).f0, Value.int IntKind.i64 (rd_T55 l0 (↑k + 1)).f1] 55))).cell? ⟨Bs, 0, none⟩ = some (.slice (some ad) l0.length c0) := (hbl2.cell (p := ⟨Bs, 0, none⟩) hBw).trans hbs'
        obtain ⟨fn, tmps, assign, body, hy, hR⟩ := hY _ (seg l0 k) _ (hJd _ _ _ hJs (grown_of_below hbl2)) (List.mem_map.2 ⟨k, List.mem_range.2 hlt, rfl⟩) (by rw [upto_length]; exact hlt)
        unfold seg at hy
        rw [if_neg (by omega)] at hy
        dsimp only [encSeg] at hy
        gi_wp2
        refine ⟨(fun h => by cases h), hR.mono ?_⟩
        have hnx2 : KpS n₀ Bs W _ := hnx.trans ⟨hbl2.mono hszw, hbl2.block Bs hBw⟩
        rintro e W3 (⟨rfl, hJ3, hk3⟩ | ⟨rfl, hJx3⟩)
        · gi_wp2
          go_roundw
          case rel => exact ⟨k + 1, by omega, by simp, by rw [upto_succ]; exact hJ3, hnx2.trans hk3⟩
          case measure => simp [intOf]; omega
        · gi_wp2
          refine bodyPost_ret (results_none rfl _ _ _) rfl ?_
          exact ⟨⟨_, rfl⟩, .inr ⟨_, upto_prefix l0 (k := k + 1) (by omega), by rw [upto_succ]; exact hJx3⟩⟩
      · obtain hl2 : l0.length = k + 1 := by omega
        have hm : ((k : Int) + 1).tmod (l0.length : Int) = 0 := by rw [hl2]; simp
        have hw1 : wrap64 ((k : Int) + 1) = (k : Int) + 1 := by unfold wrap64; omega
        have hne : (l0 = []) = False := by simp; intro e; rw [e] at hlt; simp at hlt
        have hpos : 0 < l0.length := by omega
        have hle2 : l0.length ≤ k + 1 := by omega
        obtain ⟨ad', hA', hz0, hz1⟩ := at_T55 hr0 0 (by omega) (by omega)
        have HL := Aside0.mk hl2
        clear hl2
        cases hA'
        simp only [Int.toNat_zero, Nat.zero_mul, add_zero_] at hz0 hz1
        have hx0n := (hnx.1.cell (p := ad) hb).trans hz0
        have hx1n := (hnx.1.cell (p := ⟨ad.block, ad.off + 1, none⟩) hb).trans hz1
        gi_wp2
        have hB1 := (Below.alloc (Below.refl n₀ wr) hszw (Obj.cells #[Value.int IntKind.i64 (rd_T55 l0 ↑k).f0, Value.int IntKind.i64 (rd_T55 l0 ↑k).f1] 55)).drew
        have hB1' := (Below.alloc (Below.refl wr.heap.size wr) (Nat.le_refl _) (Obj.cells #[Value.int IntKind.i64 (rd_T55 l0 ↑k).f0, Value.int IntKind.i64 (rd_T55 l0 ↑k).f1] 55)).drew
        have hbs2 := (hB1'.cell (p := ⟨Bs, 0, none⟩) hBw).trans hbs'
        have hy0 := (hB1.cell (p := ad) (by simpa [add_block] using hb)).trans hx0n
        have hy1 := (hB1.cell (p := ⟨ad.block, ad.off + 1, none⟩) (by simpa [add_block] using hb)).trans hx1n
        refine wpIn_wide.2 ?_
        refine start_ (n := 10) (S := fun w' => w'.cell? ⟨Bs, 0, none⟩ = some (.slice (some ad) l0.length c0) ∧ w'.cell? ad = some (.int .i64 (rd_T55 l0 0).f0) ∧ w'.cell? ⟨ad.block, ad.off + 1, none⟩ = some (.int .i64 (rd_T55 l0 0).f1)) (ds := [9]) #[false, false, false, false, false, false, false, false, false, false] (by kernel_rfl) rfl rfl ⟨hbs2, hy0, hy1⟩ (fun hHeld => ?_)
        refine pz (i := 1) (N := some 14) (zA 10 2) rfl rfl (by kernel_rfl) ?_
        refine pz (i := 2) (N := some 15) (zA 10 6) rfl rfl (by kernel_rfl) ?_
        refine take_ (i := 0) (N := some 13) (v := ?_) (a' := ?_) #[true, true, true, false, false, false, false, false, false, false] rfl rfl (by kernel_rfl) (fun _ _ _ h => h) (Or.inl ⟨by rfl, ?_⟩) hHeld ?_ ?_
        rotate_left
        · rintro w' ⟨s0, s1, s2⟩
          go_simp
          with_reducible rfl
        rotate_left
        · simp only [Act.put, List.setIfInBounds_toArray, List.set_cons_zero, List.set_cons_succ, i64_w, i32_w]
          rfl
        refine take_ (i := 3) (N := some 16) (v := ?_) (a' := ?_) #[true, true, true, true, false, false, false, false, false, false] rfl rfl (by kernel_rfl) (fun _ _ _ h => h) (Or.inl ⟨by rfl, ?_⟩) hHeld ?_ ?_
        rotate_left
        · rintro w' ⟨s0, s1, s2⟩
          go_simp
          with_reducible rfl
        rotate_left
        · simp only [Act.put, List.setIfInBounds_toArray, List.set_cons_zero, List.set_cons_succ, i64_w, i32_w]
          rfl
        refine pz (i := 4) (N := some 17) (zA 10 31) rfl rfl (by kernel_rfl) ?_
        refine pz (i := 5) (N := some 18) (zA 10 63) rfl rfl (by kernel_rfl) ?_
        refine pz (i := 6) (N := some 19) (zA 10 127) rfl rfl (by kernel_rfl) ?_
        refine take_ (i := 7) (N := some 20) (v := ?_) (a' := ?_) #[true, true, true, true, true, true, true, true, false, false] rfl rfl (by kernel_rfl) (fun _ _ _ h => h) (Or.inl ⟨by rfl, ?_⟩) hHeld ?_ ?_
        rotate_left
        · rintro w' ⟨s0, s1, s2⟩
          go_simp
          with_reducible rfl
        rotate_left
        · simp only [Act.put, List.setIfInBounds_toArray, List.set_cons_zero, List.set_cons_succ, i64_w, i32_w]
          rfl
        refine one_ (i := 8) (N := some 5) #[true, true, true, true, true, true, true, true, true, false] rfl rfl (by kernel_rfl) (by decide) (fun K hK => ?_)
        refine value_ (w1 := ?_) (v := ?_) (by rfl) rfl ?_ ?_
        rotate_left 2
        · go_simp
          constructor
          · rfl
          · rfl
        refine hK.out _ _ ⟨(Below.cell (B := wr.heap.size) ((Below.refl _ _).alloc (by simp <;> omega) _) (by simpa [add_block] using hBw)).trans hHeld.1, (Below.cell (B := n₀) ((Below.refl _ _).alloc (by simp <;> omega) _) (by simpa [add_block] using hb)).trans hHeld.2.1, (Below.cell (B := n₀) ((Below.refl _ _).alloc (by simp <;> omega) _) (by simpa [add_block] using hb)).trans hHeld.2.2⟩ (fun hHeld => ?_)
        clear hK K
        refine norm_ (a' := ?_) ?_ ?_
        rotate_left
        · show Act.put _ (some 5) _ = _
          simp only [Act.put, List.setIfInBounds_toArray, List.set_cons_zero, List.set_cons_succ, i64_w, i32_w]
          rfl
        refine last_ (i := 9) (N := none) #[true, true, true, true, true, true, true, true, true, true] rfl rfl (by kernel_rfl) (by decide) (fun K hK => ?_)
        refine skip_ (w1 := ?_) (by rfl) rfl ?_ ?_
        rotate_left
        · go_simp
          rfl
        refine hK.out _ _ ?_
        clear hK K
        refine done_ (by kernel_rfl) ?_
  
        clear hbs2 hy0 hy1
        have hBs3 : (World.drew ((wr.alloc (Obj.cells #[Value.int IntKind.i64 (rd_T55 l0 ↑k).f0, Value.int IntKind.i64 (rd_T55 l0 ↑k).f1] 55)).alloc (Obj.cells #[Value.int IntKind.i64 (rd_T55 l0 0).f0, Value.int IntKind.i64 (rd_T55 l0 0).f1] 55))).cell? ⟨Bs, 0, none⟩ = some (.slice (some ad) l0.length c0) := (Below.cell (p := ⟨Bs, 0, none⟩) (B := wr.heap.size) (w := wr) (((Below.refl _ wr).alloc (Nat.le_refl _) _).alloc (by simp) _).drew hBw).trans hbs'
        have hbl2 : Below wr.heap.size wr (World.drew ((wr.alloc (Obj.cells #[Value.int IntKind.i64 (rd_T55 l0 ↑k).f0, Value.int IntKind.i64 (rd_T55 l0 ↑k).f1] 55)).alloc (Obj.cells #[Value.int IntKind.i64 (wrap64 ((rd_T55 l0 0).f0 + 3600)), Value.int IntKind.i64 (rd_T55 l0 0).f1] 55))) := (((Below.refl _ wr).alloc (Nat.le_refl _) _).alloc (by simp) _).drew
        have hBs2 : (World.drew ((wr.alloc (Obj.cells #[Value.int IntKind.i64 (rd_T55 l0 ↑k).f0, Value.int IntKind.i64 (rd_T55 l0 ↑k).f1] 55)).alloc (Obj.cells #[Value.int IntKind.i64 (wrap64 ((rd_T55 l0 0).f0 + 3600)), Value.int IntKind.i64 (rd_T55 l0 0).f1] 55))).cell? ⟨Bs, 0, none⟩ = some (.slice (some ad) l0.length c0) := (hbl2.cell (p := ⟨Bs, 0, none⟩) hBw).trans hbs'
        obtain ⟨fn, tmps, assign, body, hy, hR⟩ := hY _ (seg l0 k) _ (hJd _ _ _ hJs (grown_of_below hbl2)) (List.mem_map.2 ⟨k, List.mem_range.2 hlt, rfl⟩) (by rw [upto_length]; exact hlt)
        unfold seg at hy
        rw [if_pos HL.out.symm] at hy
        dsimp only [encSeg] at hy
        gi_wp2
        refine ⟨(fun h => by cases h), hR.mono ?_⟩
        have hnx2 : KpS n₀ Bs W _ := hnx.trans ⟨hbl2.mono hszw, hbl2.block Bs hBw⟩
        rintro e W3 (⟨rfl, hJ3, hk3⟩ | ⟨rfl, hJx3⟩)
        · gi_wp2
          go_roundw
          case rel => exact ⟨k + 1, by omega, by simp, by rw [upto_succ]; exact hJ3, hnx2.trans hk3⟩
          case measure => simp [intOf]; omega
        · gi_wp2
          refine bodyPost_ret (results_none rfl _ _ _) rfl ?_
          exact ⟨⟨_, rfl⟩, .inr ⟨_, upto_prefix l0 (k := k + 1) (by omega), by rw [upto_succ]; exact hJx3⟩⟩
    · obtain rfl : k = l0.length := by omega
      gi_wp2
      go_end0
      exact ⟨⟨_, rfl⟩, .inl ⟨_, rfl, hJs⟩⟩
theorem segments_stops (n : Nat) (Bs n₀ : Nat) (A0 : Option Addr) (c0 : Nat) (l0 : List S55) (hlen : l0.length ≤ 140737488351232) (w : World) (hn0 : n₀ ≤ w.heap.size) (hBs0 : Bs < w.heap.size)
    (hBs : w.cell? ⟨Bs, 0, none⟩ = some (.slice A0 l0.length c0)) (hr0 : Kd.C k55 w A0 l0.length l0) (hc0 : l0.length ≤ c0) (hbl : ∀ ad, A0 = some ad → 0 < l0.length → ad.block < n₀) :
    SeqStopsK Fence.wide n Try.prog 97 #[.pointer (some ⟨Bs, 0, none⟩)] encSeg (KpS n₀ Bs) (fun ys => ys = segs l0) (fun pre => pre <+: segs l0) l0.length w := fun l J Jx W hW hJ _ hY h0 =>
  segments1_in n l Bs n₀ A0 c0 l0 hlen J Jx (fun s A B hs hg => hJ s A B none hs hg (fun r e => by cases e)) (fun pre x W1 h1 _ h2 => hY pre x W1 h1 h2) W (Nat.le_trans hn0 hW.size) (Nat.lt_of_lt_of_le hBs0 hW.size)
    ((hW.cell (p := ⟨Bs, 0, none⟩) hBs0).trans hBs) (Kd.C_below hr0 hW) hc0 hbl h0
/-- The same, the body being told that it is handed one of the card's segments. -/
theorem segments_stops_mem (n : Nat) (Bs n₀ : Nat) (A0 : Option Addr) (c0 : Nat) (l0 : List S55) (hlen : l0.length ≤ 140737488351232) (w : World) (hn0 : n₀ ≤ w.heap.size) (hBs0 : Bs < w.heap.size)
    (hBs : w.cell? ⟨Bs, 0, none⟩ = some (.slice A0 l0.length c0)) (hr0 : Kd.C k55 w A0 l0.length l0) (hc0 : l0.length ≤ c0) (hbl : ∀ ad, A0 = some ad → 0 < l0.length → ad.block < n₀) :
    SeqStopsK Fence.wide n Try.prog 97 #[.pointer (some ⟨Bs, 0, none⟩)] (fun x : { x : S55 × S55 // x ∈ segs l0 } => encSeg x.1) (KpS n₀ Bs) (fun ys => ys.map (·.1) = segs l0) (fun pre => pre.map (·.1) <+: segs l0) l0.length w := fun l J Jx W hW hJ _ hY h0 => by
  refine (segments1_in n l Bs n₀ A0 c0 l0 hlen (fun pre W => ∃ p : List { x : S55 × S55 // x ∈ segs l0 }, p.map (·.1) = pre ∧ J p W) (fun pre W => ∃ p : List { x : S55 × S55 // x ∈ segs l0 }, p.map (·.1) = pre ∧ Jx p W)
    (fun s A B hs hg => by obtain ⟨p, hp, hj⟩ := hs; exact ⟨p, hp, hJ p A B none hj hg (fun r e => by cases e)⟩) ?_ W (Nat.le_trans hn0 hW.size) (Nat.lt_of_lt_of_le hBs0 hW.size)
    ((hW.cell (p := ⟨Bs, 0, none⟩) hBs0).trans hBs) (Kd.C_below hr0 hW) hc0 hbl ⟨[], rfl, h0⟩).mono ?_
  · rintro pre x W1 ⟨p, rfl, hj⟩ hx hlt
    obtain ⟨fn, tmps, assign, body, hy, hR⟩ := hY p ⟨x, hx⟩ W1 hj (by simpa using hlt)
    refine ⟨fn, tmps, assign, body, hy, hR.mono ?_⟩
    rintro e W' (⟨he, h1, h2⟩ | ⟨he, h1⟩)
    · exact .inl ⟨he, ⟨p ++ [⟨x, hx⟩], by simp, h1⟩, h2⟩
    · exact .inr ⟨he, ⟨p ++ [⟨x, hx⟩], by simp, h1⟩⟩
  · rintro e W' ⟨he, ⟨ys, hy, p, hp, hj⟩ | ⟨pre, hpre, p, hp, hj⟩⟩
    · exact ⟨he, .inl ⟨p, hp.trans hy, hj⟩⟩
    · exact ⟨he, .inr ⟨p, by show p.map (·.1) <+: segs l0; rw [hp]; exact hpre, hj⟩⟩
theorem segments_calls (A0 : Option Addr) (n c0 : Nat) (w : World) :
    Calls Try.prog 87 #[.slice A0 n c0] w fun e w' => e = .returned (.func (.func 97) #[] #[.pointer (some ⟨w.heap.size, 0, none⟩)]) ∧ w' = w.alloc (.cells #[.slice A0 n c0] 23) := by
  go_enter Try.func87, Try.ntmps87
  go_wp2
  go_ret
  exact ⟨rfl, rfl⟩
theorem kpS_t {n₀ Bs : Nat} {A B C : World} (h : KpS n₀ Bs A B) (k : KpS n₀ Bs B C) : KpS n₀ Bs A C := h.trans k
theorem kpS_b {n₀ Bs : Nat} {w : World} (hn : n₀ ≤ w.heap.size) (hB : Bs < w.heap.size) (W : World) (l : Nat) (o o' : Obj) (hl : w.heap.size ≤ l) (h : W.heap[l]? = some o) (h1 : o.isCells = false) (h2 : o.isWalk = false) : KpS n₀ Bs W (W.putObj l o') :=
  ⟨belowK_b hn W l o o' hl h h1 h2, World.putObj_heap_other (by omega)⟩
end Go.Proofs.Ytccjefoejjnccaa.H
