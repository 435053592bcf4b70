/- What is proved here: which segments fold is told as Go tells it, for every card of at most 1000 points. -/
import Derived.Test.YtccjefoejjnccaaH1
import Derived.Test.YtccjefoejjnccaaC4
import Derived.RangeFuncNested
import Derived.Maps.AppendAt
import Derived.Shelf.Abstract
import Derived.Test.YtccjefoejjnccaaZ
namespace Go.Proofs.Ytccjefoejjnccaa.H
open Go.RowKit Go.Shelf Go.Proofs.Ytccjefoejjnccaa.C Go.Proofs.YtccjefoejjnccaaH Go.Proofs.YtccjefoejjnccaaW.PrintWords Go.Proofs.YtccjefoejjnccaaW.PrintLast Go.Proofs.YtccjefoejjnccaaW.PrintMore
attribute [local go_sem] Oper.semAt_some
set_option linter.unusedSimpArgs false
set_option linter.unusedVariables false
theorem keepsFrom_below {B : Nat} {W W' : World} (h : Below W.heap.size W W') : KeepsFrom B W W' := ⟨h.size, fun k o _ hk _ => (h.block k (Array.getElem?_eq_some_iff.1 hk).1).trans hk⟩
theorem boxed_below {W W' : World} {b : Nat} {t : TypeId} {v : Value} (h : Boxed W b t v) (hb : Below W.heap.size W W') : Boxed W' b t v := (hb.block b h.lt).trans h
/-- A block of two cells. -/
def Box2 (W : World) (b : Nat) (t : TypeId) (u v : Value) : Prop := W.heap[b]? = some (.cells #[u, v] t (0, 0))
theorem Box2.lt {W : World} {b : Nat} {t : TypeId} {u v : Value} (h : Box2 W b t u v) : b < W.heap.size := (Array.getElem?_eq_some_iff.1 h).1
theorem Box2.cell0 {W : World} {b : Nat} {t : TypeId} {u v : Value} (h : Box2 W b t u v) : W.cell? ⟨b, 0, none⟩ = some u := by simp [World.cell?, show W.heap[b]? = _ from h]
theorem Box2.cell1 {W : World} {b : Nat} {t : TypeId} {u v : Value} (h : Box2 W b t u v) : W.cell? ⟨b, 1, none⟩ = some v := by simp [World.cell?, show W.heap[b]? = _ from h]
theorem Box2.below {W W' : World} {b : Nat} {t : TypeId} {u v : Value} (h : Box2 W b t u v) (hb : Below W.heap.size W W') : Box2 W' b t u v := (hb.block b h.lt).trans h
theorem Box2.new (W : World) (t : TypeId) (u v : Value) : Box2 (W.alloc (.cells #[u, v] t)) W.heap.size t u v := World.alloc_heap_new W _
theorem Box2.alloc {W : World} {b : Nat} {t : TypeId} {u v : Value} (h : Box2 W b t u v) (o : Obj) : Box2 (W.alloc o) b t u v := h.below ((Below.refl _ _).alloc (Nat.le_refl _) _)
theorem box2_own {β : Type} (b : Nat) (t : TypeId) (f g : β → Value) : Own (fun s W => Box2 W b t (f s) (g s)) := fun s X Y row hs hg hrow => by
  have hb : some b ≠ row := fun e' => by
    obtain ⟨o, ho, hc⟩ := hrow b e'.symm
    rw [show X.heap[b]? = _ from hs] at ho; cases ho; cases hc
  exact (hg.block b hs.lt hb).trans hs
/-- 'out = append(out, ..)' into a box that lies ahead of the rows (below base): all that the walk owes. -/
theorem appended2 {W w1 : World} {n₀ base B : Nat} {t e : TypeId} {size : Nat} {v v' : Value} {k m : Nat} {xs ys : List Value} {tmp : Obj}
    (hv : Boxed W B t v) (hrow : W.ownsRow base e size v k xs) (hn₀ : n₀ ≤ W.heap.size) (hb : n₀ ≤ base) (hne : B < base) (hB : n₀ ≤ B)
    (hown' : w1.ownsRow base e size v' m ys) (hgrow : (W.alloc tmp).grownBy w1 v.ownBlock) :
    Boxed w1 B t v ∧ Boxed (w1.setCell ⟨B, 0, none⟩ v') B t v' ∧ (w1.setCell ⟨B, 0, none⟩ v').ownsRow base e size v' m ys ∧ KeepsOthers W (w1.setCell ⟨B, 0, none⟩ v') ∧ Below n₀ W (w1.setCell ⟨B, 0, none⟩ v') ∧
      (∀ (b : Nat) (t' : TypeId) (u : Value), Boxed W b t' u → b < base → b ≠ B → Boxed (w1.setCell ⟨B, 0, none⟩ v') b t' u) ∧
      (∀ b, b < base → b ≠ B → b < W.heap.size → (w1.setCell ⟨B, 0, none⟩ v').heap[b]? = W.heap[b]?) := by
  have nr : ∀ b, b < base → some b ≠ v.ownBlock := fun b hb' e' => by have := own_base hrow b e'.symm; omega
  have nr' : ∀ b, b < base → some b ≠ v'.ownBlock := fun b hb' e' => by have := own_base hown' b e'.symm; omega
  have hv1 : Boxed w1 B t v := (hv.alloc tmp).kept hgrow (nr B hne)
  refine ⟨hv1, hv1.set v', hown'.kept (grownBy_setCell' w1 B v') (.inr (nr' B hne).symm), ?_, ?_, ?_, ?_⟩
  · refine ((KeepsOthers.alloc W tmp).trans (KeepsOthers.of_grownBy hgrow fun j o ej hj => ?_)).trans (KeepsOthers.setCell _ _ _)
    rcases (hrow.alloc tmp).2 with ⟨rfl, _⟩ | ⟨g, cap, cur, rfl, _, hgb, _⟩
    · simp [Value.ownBlock] at ej
    · obtain rfl : g = j := by simpa [Value.ownBlock] using ej
      rw [hgb] at hj; cases hj; rfl
  · refine (((Below.refl n₀ W).alloc hn₀ tmp).grown hgrow (by simp; omega) fun j ej => ?_).setCell (p := ⟨B, 0, none⟩) hB v'
    exact Nat.le_trans hb (own_base hrow j ej)
  · intro b t' u hu hlt hbB
    exact ((hu.alloc tmp).kept hgrow (nr b hlt)).kept (grownBy_setCell' w1 B v') (by simpa using hbB)
  · intro b hlt hbB hbw
    refine ((grownBy_setCell' w1 B v').block b ?_ (by simpa using hbB)).trans ((hgrow.block b (by simp; omega) (nr b hlt)).trans (Below.heap_alloc W tmp b hbw))
    exact Nat.lt_of_lt_of_le (by simp; omega) hgrow.size
theorem ownFrom_size {β : Type} (B m : Nat) : OwnFrom B (fun (_ : β) W => m ≤ W.heap.size) := fun _ _ _ _ hs hg _ => Nat.le_trans hs hg.size
theorem keepsFrom_of_others {B : Nat} {W W' : World} (h : KeepsOthers W W') : KeepsFrom B W W' := h.from B
def foldsAt (x : S55 × S55) : Bool := decide (wrap64 (x.2.f0 + x.2.f1) ≤ wrap64 (x.1.f0 + x.1.f1))
def foldIdx : List (S55 × S55) → Int → List Int
  | [], _ => []
  | x :: xs, i => if foldsAt x then i :: foldIdx xs (i + 1) else foldIdx xs (i + 1)
theorem foldIdx_snoc (x : S55 × S55) : ∀ (xs : List (S55 × S55)) (i : Int), foldIdx (xs ++ [x]) i = foldIdx xs i ++ if foldsAt x then [i + xs.length] else []
  | [], i => by simp [foldIdx]
  | y :: ys, i => by
    simp only [List.cons_append, foldIdx, foldIdx_snoc x ys (i + 1), List.length_cons]
    rw [show i + 1 + (ys.length : Int) = i + ((ys.length + 1 : Nat) : Int) by omega]
    by_cases h : foldsAt y <;> simp [h]
theorem foldIdx_length : ∀ (xs : List (S55 × S55)) (i : Int), (foldIdx xs i).length ≤ xs.length
  | [], _ => by simp [foldIdx]
  | x :: xs, i => by
    simp only [foldIdx]
    have := foldIdx_length xs (i + 1)
    split <;> simp <;> omega
/-- Which segments fold. -/
def card_Card_folds.f (l0 : List S55) : Option (List Int) := if l0.length ≤ 1000 then some (foldIdx (segs l0) 0) else none
set_option maxRecDepth 100000 in
set_option maxHeartbeats 4000000 in
theorem card_Card_folds.calls (A0 : Option Addr) (c0 : Nat) (l0 : List S55) (r : List Int) (w : World) (hr0 : Kd.C k55 w A0 l0.length l0) (hc0 : l0.length ≤ c0) (h : card_Card_folds.f l0 = some r) :
    Calls Try.prog 59 #[.slice A0 l0.length c0] w fun e w' => ∃ v0_ : Value, e = .returned v0_ ∧ Kd.R (Kd.int .i64) 3 w' w.heap.size (fun _ => True) v0_ r ∧ Below w.heap.size w w' := by
  have hu55 := Try.underlying55
  unfold card_Card_folds.f at h
  split at h
  case isFalse => cases h
  case isTrue hlen =>
  obtain rfl := Option.some.inj h
  clear h
  have HR := Aside0.mk hr0
  have HC := Aside0.mk hc0
  have hblk : ∀ ad, A0 = some ad → 0 < l0.length → ad.block < w.heap.size := fun ad e hp => by
    obtain ⟨ad', e', hx, _⟩ := at_T55 hr0 0 (by omega) (by omega)
    rw [e] at e'; cases e'
    have := World.block_lt_of_cell? w _ hx
    simpa [add_block] using this
  clear hr0 hc0
  obtain ⟨i0, hi, hz0, hz1, hz2⟩ := info_parts info3
  refine (callsIn_wide (n := 9)).1 ?_
  refine callsIn_of_wp_marks Try.func59 rfl trivial ?_ rfl
  simp only [Try.ntmps59, List.size_toArray, List.length_cons, List.length_nil, Nat.reduceAdd, Nat.reduceSub, Array.replicate_succ, Array.replicate_zero, List.push_toArray, List.append_toArray, List.nil_append, List.cons_append]
  gi_wp2_with (refine ⟨trivial, ?_⟩; gi_at_call 87; refine (callsIn_wide.2 (segments_calls _ _ _ _)).mono ?_; rintro e w' ⟨rfl, rfl⟩)
  have bO := Boxed.new w 34 (.slice none 0 0)
  have bI := Boxed.new (w.alloc (.cells #[.slice none 0 0] 34)) 3 (.int .i64 0)
  have bS := Boxed.new ((w.alloc (.cells #[.slice none 0 0] 34)).alloc (.cells #[.int .i64 0] 3)) 23 (.slice A0 l0.length c0)
  simp only [World.size_alloc] at bI bS
  obtain ⟨W0, hW0⟩ : ∃ W0, ((w.alloc (.cells #[.slice none 0 0] 34)).alloc (.cells #[.int .i64 0] 3)).alloc (.cells #[.slice A0 l0.length c0] 23) = W0 := ⟨_, rfl⟩
  have hsz : W0.heap.size = w.heap.size + 3 := by rw [← hW0]; simp
  have hB0 : Below w.heap.size w W0 := by rw [← hW0]; exact (((Below.refl _ w).alloc (Nat.le_refl _) _).alloc (by simp) _).alloc (by simp; omega) _
  have bO' : Boxed W0 w.heap.size 34 (.slice none 0 0) := by rw [← hW0]; exact (bO.alloc _).alloc _
  have bI' : Boxed W0 (w.heap.size + 1) 3 (.int .i64 0) := by rw [← hW0]; exact bI.alloc _
  have bS' : Boxed W0 (w.heap.size + 2) 23 (.slice A0 l0.length c0) := by rw [← hW0]; exact bS
  have hS0 := bS'.cell
  rw [hW0]
  have hszA : w.heap.size + 3 ≤ W0.heap.size := by omega
  clear bO bI bS hW0 hsz
  refine wpIn_rangeFunc_ownH (F := Fence.wide) (w0 := W0) (lb := #[.pointer (some ⟨w.heap.size + 2, 0, none⟩)]) rfl (by decide) (gf := 97) rfl trivial (enters_of Try.func97 (by kernel_rfl) rfl)
    (segments_stops 8 (w.heap.size + 2) w.heap.size A0 c0 l0 (by omega) W0 hB0.size (by omega) hS0 (Kd.C_below HR.out hB0) HC.out hblk) kpS_t (kpS_b hB0.size (by omega)) (Below.refl _ _) (fun _ => rfl)
    (fun pre W => (∃ v, Boxed W w.heap.size 34 v ∧ W.ownsRow W0.heap.size 3 1 v (foldIdx pre 0).length ((foldIdx pre 0).map (Value.int .i64)) ∧ True) ∧ Boxed W (w.heap.size + 1) 3 (.int .i64 pre.length) ∧ Below w.heap.size w W ∧ W0.heap.size ≤ W.heap.size)
    (fun _ _ _ => False)
    (OwnFrom.and (Own.from (holdsRow_own W0.heap.size w.heap.size 34 3 1 (fun pre => (foldIdx pre 0).length) (fun pre => (foldIdx pre 0).map (Value.int .i64)) (fun _ _ => True)) _)
      (OwnFrom.and (Own.from (boxed_own _ _ (fun pre : List (S55 × S55) => Value.int .i64 pre.length)) _) (OwnFrom.and (ownFrom_below (Nat.le_refl _) hB0.size) (ownFrom_size _ _))))
    (fun _ _ _ _ _ hs _ _ => hs)
    ⟨⟨_, bO', World.ownsRow_nil _ _ _ _, trivial⟩, bI', hB0, Nat.le_refl _⟩
    (fun x a' W => ∃ Bx, W0.heap.size ≤ Bx ∧ (Box2 W Bx 55 (.int .i64 x.1.f0) (.int .i64 x.1.f1) ∧ Box2 W (Bx + 1) 55 (.int .i64 x.2.f0) (.int .i64 x.2.f1)) ∧
      a' = { tmps := #[.slice A0 l0.length c0, undef, .slice none 0 0, .pointer (some ⟨w.heap.size, 0, none⟩), .pointer (some ⟨w.heap.size + 1, 0, none⟩), .pointer (some ⟨Bx, 0, none⟩), .pointer (some ⟨Bx + 1, 0, none⟩), .slice A0 l0.length c0, .func (.func 97) #[] #[.pointer (some ⟨w.heap.size + 2, 0, none⟩)], .agg #[.int .i64 x.1.f0, .int .i64 x.1.f1], .agg #[.int .i64 x.2.f0, .int .i64 x.2.f1], undef, undef, undef, undef, undef, undef, undef, undef, undef, undef, undef, undef], defers := [] })
    (fun x a' s X Y row ⟨Bx, h1, ⟨hb0, hb1⟩, ha⟩ hg hr => ⟨Bx, h1, ⟨box2_own Bx 55 (fun _ : Unit => .int .i64 x.1.f0) (fun _ => .int .i64 x.1.f1) () X Y row hb0 hg (fun r e => (hr r e).2), box2_own (Bx + 1) 55 (fun _ : Unit => .int .i64 x.2.f0) (fun _ => .int .i64 x.2.f1) () X Y row hb1 hg (fun r e => (hr r e).2)⟩, ha⟩) ?assign ?body ?done ?stop
  case assign =>
    rintro l pre x W K ⟨⟨v, hv, hrow, -⟩, hbi, hB, hW⟩ hK
    simp only [encSeg]
    have hsz2 : W0.heap.size ≤ W.heap.size := hW
    gi_wp2
    have hb2 : Below W.heap.size W ((W.alloc (.cells #[.int .i64 x.1.f0, .int .i64 x.1.f1] 55)).alloc (.cells #[.int .i64 x.2.f0, .int .i64 x.2.f1] 55)) := ((Below.refl _ W).alloc (Nat.le_refl _) _).alloc (by simp) _
    refine hK _ _ (keepsFrom_below hb2) ⟨hb2.mono hB.size, hb2.block _ (by omega)⟩ ⟨⟨v, (hv.alloc _).alloc _, (hrow.alloc _).alloc _, trivial⟩, (hbi.alloc _).alloc _, hB.trans (hb2.mono hB.size), Nat.le_trans hW hb2.size⟩ ⟨W.heap.size, hsz2, ⟨(Box2.new _ _ _ _).alloc _, ?_⟩, rfl⟩
    have := Box2.new (W.alloc (.cells #[.int .i64 x.1.f0, .int .i64 x.1.f1] 55)) 55 (.int .i64 x.2.f0) (.int .i64 x.2.f1)
    rwa [World.size_alloc] at this
  case body =>
    rintro l pre x a' W hl ⟨rec_, hrec⟩ ⟨⟨v, hv, hrow, -⟩, hbi, hB, hW⟩ ⟨Bx, hBx, ⟨hb0, hb1⟩, rfl⟩ hlt
    have hx0 := hb0.cell0
    have hx1 := hb0.cell1
    have hx2 := hb1.cell0
    have hx3 := hb1.cell1
    have hlt0 := hb0.lt
    have hlt1 := hb1.lt
    gi_wp2
    have hQ_ : ¬ LetsOut (Exit.then (fun (_ : Act) (_ : World) => True) (fun _ _ _ => False)) := fun ⟨_, _, h⟩ => h
    have hQ_ : ∀ {K1 K2 : Act → World → Prop} {Q : Exit → Act → World → Prop}, ¬ LetsOut Q → ¬ LetsOut (Exit.then K1 (Exit.then K2 (Exit.inBlock 1 Q))) := fun hq ⟨a, w, h⟩ => hq ⟨a, w, h⟩
    have hQ_ := fun K1 K2 => @hQ_ K1 K2 _ (show ¬ LetsOut (ownPostG W0.heap.size (KpS w.heap.size (w.heap.size + 2)) (fun pre W => (∃ v, Boxed W w.heap.size 34 v ∧ W.ownsRow W0.heap.size 3 1 v (foldIdx pre 0).length ((foldIdx pre 0).map (Value.int .i64)) ∧ True) ∧ Boxed W (w.heap.size + 1) 3 (.int .i64 pre.length) ∧ Below w.heap.size w W ∧ W0.heap.size ≤ W.heap.size) (fun _ _ _ => False) (pre ++ [x]) W) from fun ⟨_, _, h⟩ => h)
    refine startIn_ (hQ_ _ _) (by rfl) (n := 5) (S := fun w' => w'.cell? ⟨Bx, 0, none⟩ = some (.int .i64 x.1.f0) ∧ w'.cell? ⟨Bx, 1, none⟩ = some (.int .i64 x.1.f1) ∧ w'.cell? ⟨Bx + 1, 0, none⟩ = some (.int .i64 x.2.f0) ∧ w'.cell? ⟨Bx + 1, 1, none⟩ = some (.int .i64 x.2.f1)) (ds := []) #[false, false, false, false, false] (by kernel_rfl) rfl rfl ⟨hx0, hx1, hx2, hx3⟩ (fun hHeld => ?_)
    refine take_ (i := 0) (N := some 11) (v := ?_) (a' := ?_) #[true, false, false, false, false] rfl rfl (by kernel_rfl) (fun _ _ _ h => h) (Or.inl ⟨by rfl, ?_⟩) hHeld ?_ ?_
    rotate_left
    · rintro w' ⟨s0, s1, s2, s3⟩
      go_simp
      with_reducible rfl
    rotate_left
    · simp only [Act.put, List.setIfInBounds_toArray, List.set_cons_zero, List.set_cons_succ, i64_w, i32_w]
      rfl
    refine take_ (i := 2) (N := some 13) (v := ?_) (a' := ?_) #[true, false, true, false, false] rfl rfl (by kernel_rfl) (fun _ _ _ h => h) (Or.inl ⟨by rfl, ?_⟩) hHeld ?_ ?_
    rotate_left
    · rintro w' ⟨s0, s1, s2, s3⟩
      go_simp
      with_reducible rfl
    rotate_left
    · simp only [Act.put, List.setIfInBounds_toArray, List.set_cons_zero, List.set_cons_succ, i64_w, i32_w]
      rfl
    refine one_ (i := 1) (N := some 12) #[true, true, true, false, false] rfl rfl (by kernel_rfl) (by decide) (fun K hK => ?_)
    refine goes_ Try.func71 (by kernel_rfl) rfl #[.agg #[.int .i64 x.2.f0, .int .i64 x.2.f1]] (by rfl) rfl rfl (by simp only [List.map_toArray, List.map_cons, List.map_nil]; rfl) ?_
    with_reducible refine (card_Point_course.calls _ _ (wrap64 (x.2.f0 + x.2.f1)) _ rfl).mono ?_
    rintro e w3 ⟨rfl, hb3⟩
    refine ⟨_, rfl, ?_⟩
    refine hK.out _ _ ⟨(hb3.cell (p := ⟨Bx, 0, none⟩) hlt0).trans hHeld.1, (hb3.cell (p := ⟨Bx, 1, none⟩) hlt0).trans hHeld.2.1, (hb3.cell (p := ⟨Bx + 1, 0, none⟩) hlt1).trans hHeld.2.2.1, (hb3.cell (p := ⟨Bx + 1, 1, none⟩) hlt1).trans hHeld.2.2.2⟩ (fun hHeld => ?_)
    clear hK K
    refine norm_ (a' := ?_) ?_ ?_
    rotate_left
    · show Act.put _ (some 12) _ = _
      simp only [Act.put, List.setIfInBounds_toArray, List.set_cons_zero, List.set_cons_succ, i64_w, i32_w]
      rfl
    refine one_ (i := 3) (N := some 14) #[true, true, true, true, false] rfl rfl (by kernel_rfl) (by decide) (fun K hK => ?_)
    refine goes_ Try.func71 (by kernel_rfl) rfl #[.agg #[.int .i64 x.1.f0, .int .i64 x.1.f1]] (by rfl) rfl rfl (by simp only [List.map_toArray, List.map_cons, List.map_nil]; rfl) ?_
    with_reducible refine (card_Point_course.calls _ _ (wrap64 (x.1.f0 + x.1.f1)) _ rfl).mono ?_
    rintro e w4 ⟨rfl, hb4⟩
    refine ⟨_, rfl, ?_⟩
    refine hK.out _ _ ⟨(hb4.cell (p := ⟨Bx, 0, none⟩) (Nat.lt_of_lt_of_le hlt0 hb3.size)).trans hHeld.1, (hb4.cell (p := ⟨Bx, 1, none⟩) (Nat.lt_of_lt_of_le hlt0 hb3.size)).trans hHeld.2.1, (hb4.cell (p := ⟨Bx + 1, 0, none⟩) (Nat.lt_of_lt_of_le hlt1 hb3.size)).trans hHeld.2.2.1, (hb4.cell (p := ⟨Bx + 1, 1, none⟩) (Nat.lt_of_lt_of_le hlt1 hb3.size)).trans hHeld.2.2.2⟩ (fun hHeld => ?_)
    clear hK K
    refine norm_ (a' := ?_) ?_ ?_
    rotate_left
    · show Act.put _ (some 14) _ = _
      simp only [Act.put, List.setIfInBounds_toArray, List.set_cons_zero, List.set_cons_succ, i64_w, i32_w]
      rfl
    refine pz (i := 4) (N := some 15) (zA 5 31) rfl rfl (by kernel_rfl) ?_
    refine done_ (by kernel_rfl) ?_
    have hb34 : Below W.heap.size W w4 := ((Below.refl _ W).drew.trans hb3).trans (hb4.mono hb3.size)
    have hv4 := boxed_below hv hb34
    have hi4 := boxed_below hbi hb34
    have hrow4 := own_move hrow (fun k hk => hb34.block k (own_lt hrow k hk))
    have hWsz : W0.heap.size ≤ W.heap.size := hW
    have h4sz : W.heap.size ≤ w4.heap.size := hb34.size
    clear hHeld
    by_cases hf : wrap64 (x.2.f0 + x.2.f1) ≤ wrap64 (x.1.f0 + x.1.f1)
    · have hfd : decide (wrap64 (x.2.f0 + x.2.f1) ≤ wrap64 (x.1.f0 + x.1.f1)) = true := decide_eq_true hf
      have HF := Aside0.mk hf
      rw [hfd]
      clear hf hfd
      have hc := hv4.cell
      have hci := hi4.cell
      have hpl := foldIdx_length pre 0
      gi_wp2_with (gi_at_builtin; refine wpListIn_append_own _ rfl _ _ 34 rfl W0.heap.size 3 i0 (.int .i64 0) 1 8 Try.underlying34 hi hz0 hz1 hz2 rfl (by decide) _ _ _ rfl (hrow4.alloc _) ⟨w4.heap.size, 0, none⟩ 1 1 [.int .i64 pre.length] rfl rfl (cell_one_new _ _ _) (by simp [Value.oneCell']) (by unfold maxLen; omega) (by omega) (by simp; omega) ?_; intro v' w5 hown' hgrow _; obtain ⟨g', cap', rfl⟩ := ownsRow_succ hown'; obtain ⟨hv1, hv2, hr2, hk2, hb2, hoth, hothb⟩ := appended2 (n₀ := w.heap.size) hv4 hrow4 (by omega) (by omega) (by omega) (Nat.le_refl _) hown' hgrow; have hi5 := hoth _ _ _ hi4 (by omega) (by omega); have hc1 := hv1.cell; have hf1 := hv1.frozen; have hci5 := hi5.cell; have hfi5 := hi5.frozen)
      have hks : KeepsOthers w4 _ := hk2.trans (KeepsOthers.setCell _ ⟨w.heap.size + 1, 0, none⟩ (.int .i64 ((pre.length : Int) + 1)))
      refine ⟨(keepsFrom_below hb34).trans (hks.from _), ⟨(hb34.mono hB.size).trans (hb2.setCell (p := ⟨w.heap.size + 1, 0, none⟩) (by simp) _), ?_⟩, ⟨⟨_, (hv2.kept (grownBy_setCell' _ _ _) (by simp)), ?_, trivial⟩, ?_, (hB.trans (hb34.mono hB.size)).trans (hb2.setCell (p := ⟨w.heap.size + 1, 0, none⟩) (by simp) _), ?_⟩⟩
      · rw [Below.heap_setCell _ _ _ _ (by simp), hothb _ (by omega) (by omega) (by omega)]
        exact hb34.block _ (by omega)
      · rw [foldIdx_snoc, if_pos (by simp [foldsAt, HF.out])]
        have := hr2.kept (grownBy_setCell' _ (w.heap.size + 1) (.int .i64 ((pre.length : Int) + 1))) (.inr fun e' => by have := own_base hr2 _ e'; omega)
        simpa using this
      · have := hi5.set (.int .i64 ((pre.length : Int) + 1))
        simpa using this
      · have := hks.size
        omega
    · have hfd : decide (wrap64 (x.2.f0 + x.2.f1) ≤ wrap64 (x.1.f0 + x.1.f1)) = false := decide_eq_false hf
      have HF := Aside0.mk hf
      rw [hfd]
      clear hf hfd
      have hci := hi4.cell
      have hfi := hi4.frozen
      gi_wp2
      refine ⟨(keepsFrom_below hb34).trans ((KeepsOthers.setCell _ _ _).from _), ⟨(hb34.mono hB.size).trans ((Below.refl _ _).setCell (p := ⟨w.heap.size + 1, 0, none⟩) (by simp) _), ?_⟩, ⟨⟨v, hv4.kept (grownBy_setCell' _ _ _) (by simp), ?_⟩, ?_, (hB.trans (hb34.mono hB.size)).trans ((Below.refl _ _).setCell (p := ⟨w.heap.size + 1, 0, none⟩) (by simp) _), ?_⟩⟩
      · rw [Below.heap_setCell _ _ _ _ (by simp)]
        exact hb34.block _ (by omega)
      · rw [foldIdx_snoc, if_neg (by simpa [foldsAt] using HF.out)]
        have := hrow4.kept (grownBy_setCell' _ (w.heap.size + 1) (.int .i64 ((pre.length : Int) + 1))) (by
          by_cases hn : v.ownBlock = none
          · exact .inl hn
          · exact .inr fun e' => by have := own_base hrow4 _ e'; omega)
        simpa using this
      · have := hi4.set (.int .i64 ((pre.length : Int) + 1))
        simpa using this
      · have := (KeepsOthers.setCell w4 ⟨w.heap.size + 1, 0, none⟩ (.int .i64 ((pre.length : Int) + 1))).size
        omega
  case done =>
    rintro D ys W hD rfl ⟨⟨v, hv, hrow, -⟩, hbi, hB, hW⟩ hK
    have hc := hv.cell
    gi_wp2
    refine ⟨by simp, .inl ⟨_, _, rfl, run_takeDeferred hK, ?_⟩⟩
    refine ⟨_, results_tmp rfl _ _ _, v, rfl, ?_, hB.trans (belowK_b (w := W0) hB0.size W D _ _ hD hK rfl rfl)⟩
    refine Kd.R_of_own ?_ (fun _ _ => trivial)
    exact own_weaken (ownsRow_putObj hrow _ hK rfl) hB0.size
  case stop =>
    rintro D c pre W _ _ h _
    exact h.elim
end Go.Proofs.Ytccjefoejjnccaa.H
