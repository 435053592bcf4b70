/- What is proved here: the deviation that a card gives on a fraction is told as Go tells it, for every card of 1 to 1000 points whose segments can all be reckoned. -/
import Derived.Test.YtccjefoejjnccaaH2
import Derived.Test.YtccjefoejjnccaaZ
namespace Go.Proofs.Ytccjefoejjnccaa.H
open Go.RowKit Go.Shelf Go.Proofs.Ytccjefoejjnccaa.C Go.Proofs.YtccjefoejjnccaaH Go.Proofs.YtccjefoejjnccaaW.PrintWords Go.Proofs.YtccjefoejjnccaaW.PrintLast Go.Proofs.YtccjefoejjnccaaW.PrintMore
attribute [local go_sem] Oper.semAt_some
set_option linter.unusedSimpArgs false
set_option linter.unusedVariables false
theorem Box2.frozen0 {W : World} {b : Nat} {t : TypeId} {u v : Value} (h : Box2 W b t u v) : W.frozen? ⟨b, 0, none⟩ = false := by simp [World.frozen?, show W.heap[b]? = _ from h]
theorem Box2.frozen1 {W : World} {b : Nat} {t : TypeId} {u v : Value} (h : Box2 W b t u v) : W.frozen? ⟨b, 1, none⟩ = false := by simp [World.frozen?, show W.heap[b]? = _ from h]
theorem Box2.set2 {W : World} {b : Nat} {t : TypeId} {u v : Value} (h : Box2 W b t u v) (u' v' : Value) : Box2 ((W.setCell ⟨b, 0, none⟩ u').setCell ⟨b, 1, none⟩ v') b t u' v' := by
  obtain ⟨hlt, hk⟩ := Array.getElem?_eq_some_iff.1 h
  unfold Box2 World.setCell
  simp only [Array.getElem?_modify, if_true, show W.heap[b]? = _ from h]
  rfl
theorem Box2.other {W : World} {b : Nat} {t : TypeId} {u v : Value} (h : Box2 W b t u v) {p : Addr} (hp : b ≠ p.block) (x : Value) : Box2 (W.setCell p x) b t u v := (Below.heap_setCell W p x b hp).trans h
theorem lit101 (W : World) (p q : Int) : Kd.C k101 (W.alloc (.cells #[.int .i64 p, .int .i64 q] 101)) (some ⟨W.heap.size, 0, none⟩) ([⟨p, q⟩] : List S101).length [⟨p, q⟩] := by
  have hb := Box2.new W 101 (.int .i64 p) (.int .i64 q)
  refine ⟨rfl, (by simp), fun _ => ⟨_, rfl, fun j x hx => ?_⟩⟩
  match j, hx with
  | 0, hx =>
    obtain rfl : (⟨p, q⟩ : S101) = x := by simpa using hx
    refine ⟨_, rfl, k101_mk _ _, fun i u hu => ?_⟩
    match i, hu with
    | 0, hu => obtain rfl : Value.int .i64 p = u := by simpa using hu
               exact hb.cell0
    | 1, hu => obtain rfl : Value.int .i64 q = u := by simpa using hu
               exact hb.cell1
    | i + 2, hu => simp at hu
  | j + 1, hx => simp at hx
/-- A post without panics. -/
def NoPanic (Q : Exit → Act → World → Prop) : Exit → Act → World → Prop
  | .panic _, _, _ => False
  | .outgrown, _, _ => False
  | e, a, w => Q e a w
theorem NoPanic.le {Q : Exit → Act → World → Prop} : ∀ e a w, NoPanic Q e a w → Q e a w
  | .normal, _, _, h => h
  | .exit _, _, _, h => h
  | .goto _, _, _, h => h
  | .ret, _, _, h => h
  | .panic _, _, _, h => h.elim
  | .outgrown, _, _, h => h.elim
theorem plus1 (k : Nat) (a0 a1 : Int) (A : Option Addr) (p q r1 r2 : Int) (w : World) (hr1 : Kd.C k101 w A 1 [⟨p, q⟩]) (h : card_ratio_plus.f k a0 a1 [⟨p, q⟩] = some (r1, r2)) :
    Calls Try.prog 76 #[.agg #[.int .i64 a0, .int .i64 a1], .slice A 1 1] w fun e w' => e = .returned (.agg #[.int .i64 r1, .int .i64 r2]) ∧ Below w.heap.size w w' :=
  card_ratio_plus.calls k a0 a1 A 1 [⟨p, q⟩] r1 r2 w hr1 (by simp) h
def cmp3 (a b : Int) : Int := if a < b then -1 else if a > b then 1 else 0
theorem compare_f (a b c : Int) : card_ratio_compare.f a b c 1 = some (cmp3 (wrap64 a) (wrap64 (c * b))) := by
  unfold card_ratio_compare.f cmp_Compare_int.f cmp_isNaN_int.f cmp3
  simp only [Int.mul_one, Option.bind_some, bne_self_eq_false, Bool.false_eq_true, if_false]
  split
  · rfl
  · split <;> rfl
/-- Does a fraction lie before the end of a segment. -/
def segTest (n d : Int) (x : S55 × S55) : Bool := decide (cmp3 (wrap64 n) (wrap64 (x.2.f0 * d)) < 0)
/-- The deviation on a fraction within a segment. -/
def devAt (k : Nat) (n d : Int) (x : S55 × S55) : Option (Int × Int) :=
  (card_ratio_plus.f k n d [⟨wrap64 (-x.1.f0), 1⟩]).bind fun p => (card_ratio_plain.f k (wrap64 (p.1 * wrap64 (x.2.f1 - x.1.f1))) (wrap64 (p.2 * wrap64 (x.2.f0 - x.1.f0)))).bind fun s => card_ratio_plus.f k x.1.f1 1 [⟨s.1, s.2⟩]
/-- The deviation on a fraction, a turn later where it lies before the first point. -/
def devIn (k : Nat) (l0 : List S55) (n d : Int) : Option (Int × Int) :=
  if (segs l0).all (fun x => (devAt k n d x).isSome) then (match (segs l0).find? (segTest n d) with | some x => devAt k n d x | none => some (0, 1)) else none
def card_Card_deviation.f (k : Nat) (l0 : List S55) (a0 a1 : Int) : Option (Int × Int) :=
  if 0 < l0.length ∧ l0.length ≤ 1000 then
    (if cmp3 (wrap64 a0) (wrap64 ((rd_T55 l0 0).f0 * a1)) < 0 then (card_ratio_plus.f k a0 a1 [⟨3600, 1⟩]).bind fun q => devIn k l0 q.1 q.2 else devIn k l0 a0 a1)
  else none
theorem find_first {α : Type} (f : α → Bool) : ∀ (p : List α) (x : α) (rest : List α), (∀ y ∈ p, f y = false) → f x = true → (p ++ ([x] ++ rest)).find? f = some x
  | [], x, rest, _, hx => by simp [List.find?_cons, hx]
  | y :: p, x, rest, hp, hx => by
    simp only [List.cons_append, List.find?_cons, hp y (by simp)]
    exact find_first f p x rest (fun z hz => hp z (by simp [hz])) hx
theorem Box2.below' {W : World} {b D : Nat} {t : TypeId} {u v : Value} (h : Box2 W b t u v) {c : Option (List Deferred)} (hK : W.heap[D]? = some (.deferred c)) {o : Obj} : Box2 (W.putObj D o) b t u v :=
  (World.putObj_heap_other (fun e => by subst e; rw [show W.heap[b]? = _ from h] at hK; cases hK)).trans h
theorem res53 {tmps : Array Value} {W : World} {b : Nat} {u v : Int} (h0 : W.cell? ⟨b, 0, none⟩ = some (.int .i64 u)) (h1 : W.cell? ⟨b, 1, none⟩ = some (.int .i64 v)) (ht : tmps[4]? = some (.pointer (some ⟨b, 0, none⟩)) := by rfl) : (results Try.f53 tmps).run Try.prog W = .ok (.agg #[.int .i64 u, .int .i64 v]) W := by
  have hu101 := Try.underlying101
  simp [results, Try.results53, go_sem, Array.getD_eq_getD_getElem?, ht, h0, h1]
def devT7 : Bool × List (List Nat × List Nat) := (true, [([], []), ([], []), ([1], [1]), ([2], [2]), ([3], [3]), ([4], [4]), ([0, 5, 4], [0, 5]), ([], []), ([7, 6, 6, 0, 1, 2, 3, 4, 5, 6, 7], [6, 7])])
def devT7B : List Nat := [0, 0, 2, 6, 14, 30, 63, 0, 255]
set_option maxRecDepth 100000 in
set_option maxHeartbeats 8000000 in
theorem card_Card_deviation.calls (k : Nat) (A0 : Option Addr) (c0 : Nat) (l0 : List S55) (a1_0 a1_1 : Int) (r1 r2 : Int) (w : World) (hr0 : Kd.C k55 w A0 l0.length l0) (hc0 : l0.length ≤ c0) (h : card_Card_deviation.f k l0 a1_0 a1_1 = some (r1, r2)) :
    Calls Try.prog 53 #[.slice A0 l0.length c0, .agg #[.int .i64 a1_0, .int .i64 a1_1]] w fun e w' => e = .returned (.agg #[.int .i64 r1, .int .i64 r2]) ∧ Below w.heap.size w w' := by
  have hu55 := Try.underlying55
  have hu101 := Try.underlying101
  unfold card_Card_deviation.f at h
  split at h
  case isFalse => cases h
  case isTrue hlen =>
  obtain ⟨hpos, hlen⟩ := hlen
  have HR := Aside0.mk hr0
  have HC := Aside0.mk hc0
  obtain ⟨ad, hA, hz2, hz3⟩ := at_T55 hr0 0 (by omega) (by omega)
  cases hA
  simp only [Int.toNat_zero, Nat.zero_mul, add_zero_] at hz2 hz3
  have hadlt : ad.block < w.heap.size := World.block_lt_of_cell? w _ hz2
  have hblk : ∀ ad', some ad = some ad' → 0 < l0.length → ad'.block < w.heap.size := fun ad' e hp => by cases e; exact hadlt
  have HBLK := Aside0.mk hblk
  clear hr0 hc0 hblk
  refine (callsIn_wide (n := 9)).1 ?_
  refine callsIn_of_wp_marks Try.func53 rfl trivial ?_ rfl
  simp only [Try.ntmps53, List.size_toArray, List.length_cons, List.length_nil, Nat.reduceAdd, Nat.reduceSub, Array.replicate_succ, Array.replicate_zero, List.push_toArray, List.append_toArray, List.nil_append, List.cons_append]
  refine Go.wpIn_mono ?_ NoPanic.le
  refine wpIn_seq_k fun K1 h1 => ?_
  have H := Aside0.mk h
  clear h
  have H1 := Aside0.mk h1
  clear h1
  gi_wp2
  refine H1.out _ _ ?_
  clear H1 K1
  refine wpIn_seq_k fun K1 h1 => ?_
  have H1 := Aside0.mk h1
  clear h1
  have hrest : ∀ (n d : Int) (u8 u9 u10 u11 u12 u13 u14 u15 u16 u17 u18 u19 : Value) (W : World), devIn k l0 n d = some (r1, r2) → Box2 W w.heap.size 101 (.int .i64 n) (.int .i64 d) → Box2 W (w.heap.size + 1) 101 (.int .i64 0) (.int .i64 0) → Below w.heap.size w W →
      K1 { tmps := #[.slice (some ad) l0.length c0, .agg #[.int .i64 a1_0, .int .i64 a1_1], undef, .pointer (some ⟨w.heap.size, 0, none⟩), .pointer (some ⟨w.heap.size + 1, 0, none⟩), undef, undef, undef, u8, u9, u10, u11, u12, u13, u14, u15, u16, u17, u18, u19, undef, undef, undef, undef, undef, undef, undef, undef, undef, undef, undef, undef, undef, undef, undef, undef, undef, undef, undef, undef, undef, undef, undef, undef, undef, undef, undef, undef, undef, undef, undef, undef, undef, undef, undef, undef, undef, undef, undef, undef, undef], defers := [] } W := by
    intro n d u8 u9 u10 u11 u12 u13 u14 u15 u16 u17 u18 u19 W hdev b3 b4 hB
    refine H1.out _ _ ?_
    clear H1
    unfold devIn at hdev
    split at hdev
    case isFalse => cases hdev
    case isTrue hall =>
    have HALL := Aside0.mk hall
    have HDEV := Aside0.mk hdev
    clear hall hdev hz2 hz3
    gi_wp2_with (refine ⟨trivial, ?_⟩; gi_at_call 87; refine (callsIn_wide.2 (segments_calls _ _ _ _)).mono ?_; rintro e w' ⟨rfl, rfl⟩)
    have bS := (Boxed.new W 23 (.slice (some ad) l0.length c0))
    obtain ⟨W0, hW0⟩ : ∃ W0, W.alloc (.cells #[.slice (some ad) l0.length c0] 23) = W0 := ⟨_, rfl⟩
    have hszA : W.heap.size + 1 ≤ W0.heap.size := by rw [← hW0]; simp
    have hB0 : Below w.heap.size w W0 := by rw [← hW0]; exact hB.alloc hB.size _
    have b3' : Box2 W0 w.heap.size 101 (.int .i64 n) (.int .i64 d) := by rw [← hW0]; exact b3.alloc _
    have b4' : Box2 W0 (w.heap.size + 1) 101 (.int .i64 0) (.int .i64 0) := by rw [← hW0]; exact b4.alloc _
    have hS0 : W0.cell? ⟨W.heap.size, 0, none⟩ = some (.slice (some ad) l0.length c0) := by rw [← hW0]; exact bS.cell
    rw [hW0]
    have hBW := hB.size
    have hlt4 := b4.lt
    clear hW0 bS b3 b4 hB
    refine wpIn_rangeFunc_ownH (α := { x : S55 × S55 // x ∈ segs l0 }) (F := Fence.wide) (w0 := W0) (lb := #[.pointer (some ⟨W.heap.size, 0, none⟩)]) rfl (by decide) (gf := 97) rfl trivial (enters_of Try.func97 (by kernel_rfl) rfl)
      (segments_stops_mem 8 W.heap.size w.heap.size (some ad) c0 l0 (by omega) W0 hB0.size (by omega) hS0 (Kd.C_below HR.out hB0) HC.out HBLK.out) kpS_t (kpS_b hB0.size (by omega)) (Below.refl _ _) (fun _ => rfl)
      (fun pre W' => (Box2 W' w.heap.size 101 (.int .i64 n) (.int .i64 d) ∧ Box2 W' (w.heap.size + 1) 101 (.int .i64 0) (.int .i64 0)) ∧ (∀ y ∈ pre, segTest n d y.1 = false) ∧ Below w.heap.size w W' ∧ W0.heap.size ≤ W'.heap.size)
      (fun c pre W' => c = .ret ∧ (∃ p x s1 s2, pre = p ++ [x] ∧ (∀ y ∈ p, segTest n d y.1 = false) ∧ segTest n d x.1 = true ∧ devAt k n d x.1 = some (s1, s2) ∧ Box2 W' (w.heap.size + 1) 101 (.int .i64 s1) (.int .i64 s2)) ∧ Below w.heap.size w W')
      ?hI ?hIx ⟨⟨b3', b4'⟩, fun _ h => by simp at h, hB0, Nat.le_refl _⟩
      (fun x a' W' => ∃ Bx, W0.heap.size ≤ Bx ∧ (Box2 W' Bx 55 (.int .i64 x.1.1.f0) (.int .i64 x.1.1.f1) ∧ Box2 W' (Bx + 1) 55 (.int .i64 x.1.2.f0) (.int .i64 x.1.2.f1)) ∧
        a' = { tmps := #[.slice (some ad) l0.length c0, .agg #[.int .i64 a1_0, .int .i64 a1_1], undef, .pointer (some ⟨w.heap.size, 0, none⟩), .pointer (some ⟨w.heap.size + 1, 0, none⟩), .pointer (some ⟨Bx, 0, none⟩), .pointer (some ⟨Bx + 1, 0, none⟩), undef, u8, u9, u10, u11, u12, u13, u14, u15, u16, u17, u18, u19, .slice (some ad) l0.length c0, .func (.func 97) #[] #[.pointer (some ⟨W.heap.size, 0, none⟩)], .agg #[.int .i64 x.1.1.f0, .int .i64 x.1.1.f1], .agg #[.int .i64 x.1.2.f0, .int .i64 x.1.2.f1], undef, undef, undef, undef, undef, undef, undef, undef, undef, undef, undef, undef, undef, undef, undef, undef, undef, undef, undef, undef, undef, undef, undef, undef, undef, undef, undef, undef, undef, undef, undef, undef, undef, undef, undef, undef, undef], defers := [] })
      (fun x a' s X Y row ⟨Bx, h1, ⟨hb0, hb1⟩, ha⟩ hg hr => ⟨Bx, h1, ⟨box2_own Bx 55 (fun _ : Unit => .int .i64 x.1.1.f0) (fun _ => .int .i64 x.1.1.f1) () X Y row hb0 hg (fun r e => (hr r e).2), box2_own (Bx + 1) 55 (fun _ : Unit => .int .i64 x.1.2.f0) (fun _ => .int .i64 x.1.2.f1) () X Y row hb1 hg (fun r e => (hr r e).2)⟩, ha⟩) ?assign ?body ?done ?stop
    case hI =>
      rintro s X Y row ⟨⟨h1, h2⟩, h3, h4, h5⟩ hg hr
      exact ⟨⟨box2_own _ 101 (fun _ : Unit => .int .i64 n) (fun _ => .int .i64 d) () X Y row h1 hg (fun r e => (hr r e).2), box2_own _ 101 (fun _ : Unit => .int .i64 0) (fun _ => .int .i64 0) () X Y row h2 hg (fun r e => (hr r e).2)⟩, h3, ownFrom_below (Nat.le_refl _) hB0.size () X Y row h4 hg hr, Nat.le_trans h5 hg.size⟩
    case hIx =>
      rintro c s X Y row ⟨h0, ⟨p, x, s1, s2, h1, h2, h3, h4, h5⟩, h6⟩ hg hr
      exact ⟨h0, ⟨p, x, s1, s2, h1, h2, h3, h4, box2_own _ 101 (fun _ : Unit => .int .i64 s1) (fun _ => .int .i64 s2) () X Y row h5 hg (fun r e => (hr r e).2)⟩, ownFrom_below (Nat.le_refl _) hB0.size () X Y row h6 hg hr⟩
    case assign =>
      rintro l pre x V K ⟨⟨h1, h2⟩, h3, h4, h5⟩ hK
      simp only [encSeg]
      gi_wp2
      have hb2 : Below V.heap.size V ((V.alloc (.cells #[.int .i64 x.1.1.f0, .int .i64 x.1.1.f1] 55)).alloc (.cells #[.int .i64 x.1.2.f0, .int .i64 x.1.2.f1] 55)) := ((Below.refl _ V).alloc (Nat.le_refl _) _).alloc (by simp) _
      refine hK _ _ (keepsFrom_below hb2) ⟨hb2.mono h4.size, hb2.block _ (by omega)⟩ ⟨⟨(h1.alloc _).alloc _, (h2.alloc _).alloc _⟩, h3, h4.trans (hb2.mono h4.size), Nat.le_trans h5 hb2.size⟩ ⟨V.heap.size, h5, ⟨(Box2.new _ _ _ _).alloc _, ?_⟩, rfl⟩
      have := Box2.new (V.alloc (.cells #[.int .i64 x.1.1.f0, .int .i64 x.1.1.f1] 55)) 55 (.int .i64 x.1.2.f0) (.int .i64 x.1.2.f1)
      rwa [World.size_alloc] at this
    case body =>
      rintro l pre x a' V hl ⟨rec_, hrec⟩ ⟨⟨h1, h2⟩, h3, h4, h5⟩ ⟨Bx, hBx, ⟨hb0, hb1⟩, rfl⟩ hlt
      have hx0 : V.drew.cell? ⟨w.heap.size, 0, none⟩ = some (.int .i64 n) := h1.cell0
      have hx1 : V.drew.cell? ⟨w.heap.size, 1, none⟩ = some (.int .i64 d) := h1.cell1
      have hx2 : V.drew.cell? ⟨Bx + 1, 0, none⟩ = some (.int .i64 x.1.2.f0) := hb1.cell0
      refine wpIn_block ?_
      refine wpIn_seq_k fun K6 h6 => ?_
      have H6 := Aside0.mk h6
      clear h6
      refine startIn_ (fun ⟨_, _, h⟩ => h) (by rfl) (n := 6) (S := fun w' => w'.cell? ⟨w.heap.size, 0, none⟩ = some (.int .i64 n) ∧ w'.cell? ⟨w.heap.size, 1, none⟩ = some (.int .i64 d) ∧ w'.cell? ⟨Bx + 1, 0, none⟩ = some (.int .i64 x.1.2.f0)) (ds := []) #[false, false, false, false, false, false] (by kernel_rfl) rfl rfl ⟨hx0, hx1, hx2⟩ (fun hHeld => ?_)
      refine pz (i := 1) (N := some 25) (zA 6 2) rfl rfl (by kernel_rfl) ?_
      refine take_ (i := 0) (N := some 24) (v := ?_) (a' := ?_) #[true, true, false, false, false, false] rfl rfl (by kernel_rfl) (fun _ _ _ h => h) (Or.inl ⟨by rfl, ?_⟩) hHeld ?_ ?_
      rotate_left
      · rintro w' ⟨s0, s1, s2⟩
        go_simp
        with_reducible rfl
      rotate_left
      · simp only [Act.put, List.setIfInBounds_toArray, List.set_cons_zero, List.set_cons_succ, i64_w, i32_w]
        rfl
      refine take_ (i := 2) (N := some 26) (v := ?_) (a' := ?_) #[true, true, true, false, false, false] rfl rfl (by kernel_rfl) (fun _ _ _ h => h) (Or.inl ⟨by rfl, ?_⟩) hHeld ?_ ?_
      rotate_left
      · rintro w' ⟨s0, s1, s2⟩
        go_simp
        with_reducible rfl
      rotate_left
      · simp only [Act.put, List.setIfInBounds_toArray, List.set_cons_zero, List.set_cons_succ, i64_w, i32_w]
        rfl
      refine one_ (i := 3) (N := some 27) #[true, true, true, true, false, false] rfl rfl (by kernel_rfl) (by decide) (fun K hK => ?_)
      refine goes_ Try.func54 (by kernel_rfl) rfl #[.int .i64 x.1.2.f0] (by rfl) rfl rfl (by simp only [List.map_toArray, List.map_cons, List.map_nil]; rfl) ?_
      with_reducible refine (card_whole.calls _ _ _ _ rfl).mono ?_
      rintro e w2 ⟨rfl, hb2⟩
      refine ⟨_, rfl, ?_⟩
      refine hK.out _ _ ⟨(hb2.cell (World.block_lt_of_cell? _ _ hHeld.1)).trans hHeld.1, (hb2.cell (World.block_lt_of_cell? _ _ hHeld.2.1)).trans hHeld.2.1, (hb2.cell (World.block_lt_of_cell? _ _ hHeld.2.2)).trans hHeld.2.2⟩ (fun hHeld => ?_)
      clear hK K
      refine norm_ (a' := ?_) ?_ ?_
      rotate_left
      · show Act.put _ (some 27) _ = _
        simp only [Act.put, List.setIfInBounds_toArray, List.set_cons_zero, List.set_cons_succ, i64_w, i32_w]
        rfl
      refine one_ (i := 4) (N := some 28) #[true, true, true, true, true, false] rfl rfl (by kernel_rfl) (by decide) (fun K hK => ?_)
      refine goes_ Try.func86 (by kernel_rfl) rfl #[.agg #[.int .i64 n, .int .i64 d], .agg #[.int .i64 x.1.2.f0, .int .i64 1]] (by rfl) rfl rfl (by simp only [List.map_toArray, List.map_cons, List.map_nil]; rfl) ?_
      with_reducible refine (card_ratio_compare.calls _ _ _ _ _ _ (compare_f _ _ _)).mono ?_
      rintro e w3 ⟨rfl, hb3⟩
      refine ⟨_, rfl, ?_⟩
      refine hK.out _ _ ⟨(hb3.cell (World.block_lt_of_cell? _ _ hHeld.1)).trans hHeld.1, (hb3.cell (World.block_lt_of_cell? _ _ hHeld.2.1)).trans hHeld.2.1, (hb3.cell (World.block_lt_of_cell? _ _ hHeld.2.2)).trans hHeld.2.2⟩ (fun hHeld => ?_)
      clear hK K
      refine norm_ (a' := ?_) ?_ ?_
      rotate_left
      · show Act.put _ (some 28) _ = _
        simp only [Act.put, List.setIfInBounds_toArray, List.set_cons_zero, List.set_cons_succ, i64_w, i32_w]
        rfl
      refine pz (i := 5) (N := some 29) (zA 6 63) rfl rfl (by kernel_rfl) ?_
      refine done_ (by kernel_rfl) ?_
      refine H6.out _ _ ?_
      clear H6 K6 hHeld hx0 hx1 hx2
      have hb13 : Below V.heap.size V w3 := ((Below.refl _ V).drew.trans hb2).trans (hb3.mono hb2.size)
      have c3 := h1.below hb13
      have c4 := h2.below hb13
      have cb0 := hb0.below hb13
      have cb1 := hb1.below hb13
      have hV3 := h4.trans (hb13.mono h4.size)
      by_cases ht : cmp3 (wrap64 n) (wrap64 (x.1.2.f0 * d)) < 0
      · rw [decide_eq_true ht]
        have hts : segTest n d x.1 = true := decide_eq_true ht
        obtain ⟨⟨e1, e2⟩, hev⟩ := Option.isSome_iff_exists.1 (List.all_eq_true.1 HALL.out x.1 x.2)
        have hev0 := Aside0.mk hev
        unfold devAt at hev
        obtain ⟨⟨p1, p2⟩, hp, hev⟩ := Option.bind_eq_some_iff.mp hev
        obtain ⟨⟨s1, s2⟩, hs, he⟩ := Option.bind_eq_some_iff.mp hev
        clear hev ht
        refine wpIn_cond_true rfl ?_
        refine wpIn_seq_k fun K7 h7 => ?_
        have H7_ := Aside0.mk h7
        clear h7
        have hx0 := c3.cell0
        have hx1 := c3.cell1
        have hx3 := cb0.cell0
        have HB : Aside0 (Below w3.heap.size w3 w3.drew) := ⟨(Below.refl _ w3).drew⟩
        refine startIn_ (fun ⟨_, _, h⟩ => h) (by rfl) (n := 9) (S := fun w' => True) (ds := []) #[false, false, false, false, false, false, false, false, false] (by kernel_rfl) rfl rfl trivial (fun hHeld => ?_)
        refine pz (i := 1) (N := some 31) (zA 9 2) rfl rfl (by kernel_rfl) ?_
        refine inv_at (T := devT7) (B := devT7B) [0, 2, 3, 4, 5, 6, 7, 8] (fun a0_ b a w' => ∃ (b5 : Nat) (b7 : Nat) (m5_ : Value) (m7_ : Value), a = putSel a0_ b [(0, 30, .agg #[.int .i64 n, .int .i64 d]), (2, 32, .int .i64 x.1.1.f0), (3, 33, .int .i64 (wrap64 (-x.1.1.f0))), (4, 34, .agg #[.int .i64 (wrap64 (-x.1.1.f0)), .int .i64 1]), (5, 35, m5_), (6, 36, .agg #[.int .i64 p1, .int .i64 p2]), (7, 7, m7_)] ∧ (Below w3.heap.size w3 w') ∧ (b 5 = true → b 8 = false → Kd.C k101 w' (some ⟨b5, 0, none⟩) 1 [⟨(wrap64 (-x.1.1.f0)), 1⟩]) ∧ (b 7 = true → b 8 = false → Box2 w' b7 101 (.int .i64 0) (.int .i64 0)) ∧ (b 8 = true → Box2 w' b7 101 (.int .i64 p1) (.int .i64 p2)) ∧ (b 7 = true → w3.heap.size ≤ b7) ∧ (b 5 = true → (m5_ : Value) = .slice (some ⟨b5, 0, none⟩) 1 1) ∧ (b 7 = true → (m7_ : Value) = .pointer (some ⟨b7, 0, none⟩))) (by kernel_rfl) (by kernel_rfl) (by kernel_rfl) (by kernel_rfl) ?_ ?_ ?_
        · exact ⟨0, 0, .bool false, .bool false, by simp only [putSel, Bool.false_eq_true, if_false], HB.out, fun h_ => absurd h_ (by decide), fun h_ => absurd h_ (by decide), fun h_ => absurd h_ (by decide), fun h_ => absurd h_ (by decide), fun h_ => absurd h_ (by decide), fun h_ => absurd h_ (by decide)⟩
        · skip
          clear HB
          refine steps_cons ?_ ?_
          · rintro b a w' ⟨b5, b7, m5_, m7_, ha, Q_HB, Q_H5, Q_H7, Q_H8, Q_H9, Q_X5_, Q_X7_⟩ hb_ hon hoff
            refine ⟨_, rfl, fun K hK => ?_⟩
            have e3 : a.tmps[3]? = some (.pointer (some ⟨w.heap.size, 0, none⟩)) := by rw [ha]; exact (putSel_off rfl).trans rfl
            replace ha := Aside0.mk ha
            have HB := Aside0.mk Q_HB
            have hc0 := (HB.out.cell (World.block_lt_of_cell? _ _ hx0)).trans hx0
            have hc1 := (HB.out.cell (World.block_lt_of_cell? _ _ hx1)).trans hx1
            refine value_ (w1 := w') (v := .agg #[.int .i64 n, .int .i64 d]) (by rfl) rfl ?_ ?_
            · go_simp
              (try simp only [i64_w])
              try rfl
            refine hK.out _ _ ⟨b5, b7, m5_, m7_, (by rw [ha.out]; exact putSel_upk 0 hb_ rfl rfl rfl), Q_HB, Q_H5, Q_H7, fun h0_ => absurd ((hoff 8 (by kernel_rfl)).symm.trans h0_) (by decide), Q_H9, Q_X5_, Q_X7_⟩
          refine steps_cons ?_ ?_
          · rintro b a w' ⟨b5, b7, m5_, m7_, ha, Q_HB, Q_H5, Q_H7, Q_H8, Q_H9, Q_X5_, Q_X7_⟩ hb_ hon hoff
            refine ⟨_, rfl, fun K hK => ?_⟩
            have e31 : a.tmps[31]? = some (.pointer (some ⟨Bx, 0, none⟩)) := by rw [ha]; exact (putSel_off rfl).trans rfl
            replace ha := Aside0.mk ha
            have HB := Aside0.mk Q_HB
            have hc0 := (HB.out.cell (World.block_lt_of_cell? _ _ hx3)).trans hx3
            refine value_ (w1 := w') (v := .int .i64 x.1.1.f0) (by rfl) rfl ?_ ?_
            · go_simp
              (try simp only [i64_w])
              try rfl
            refine hK.out _ _ ⟨b5, b7, m5_, m7_, (by rw [ha.out]; exact putSel_upk 1 hb_ rfl rfl rfl), Q_HB, fun h0_ _ => absurd ((hoff 5 (by kernel_rfl)).symm.trans h0_) (by decide), Q_H7, fun h0_ => absurd ((hoff 8 (by kernel_rfl)).symm.trans h0_) (by decide), Q_H9, fun h0_ => absurd ((hoff 5 (by kernel_rfl)).symm.trans h0_) (by decide), Q_X7_⟩
          refine steps_cons ?_ ?_
          · rintro b a w' ⟨b5, b7, m5_, m7_, ha, Q_HB, Q_H5, Q_H7, Q_H8, Q_H9, Q_X5_, Q_X7_⟩ hb_ hon hoff
            refine ⟨_, rfl, fun K hK => ?_⟩
            have e32 : a.tmps[32]? = some (.int .i64 x.1.1.f0) := by rw [ha]; exact putSel_on (e := (2, 32, .int .i64 x.1.1.f0)) 1 rfl rfl (hon 2 (by kernel_rfl)) rfl
            replace ha := Aside0.mk ha
            have HB := Aside0.mk Q_HB
            refine value_ (w1 := w') (v := .int .i64 (wrap64 (-x.1.1.f0))) (by rfl) rfl ?_ ?_
            · go_simp
              (try simp only [i64_w])
              try rfl
            refine hK.out _ _ ⟨b5, b7, m5_, m7_, (by rw [ha.out]; exact putSel_upk 2 hb_ rfl rfl rfl), Q_HB, fun h0_ _ => absurd ((hoff 5 (by kernel_rfl)).symm.trans h0_) (by decide), Q_H7, fun h0_ => absurd ((hoff 8 (by kernel_rfl)).symm.trans h0_) (by decide), Q_H9, fun h0_ => absurd ((hoff 5 (by kernel_rfl)).symm.trans h0_) (by decide), Q_X7_⟩
          refine steps_cons ?_ ?_
          · rintro b a w' ⟨b5, b7, m5_, m7_, ha, Q_HB, Q_H5, Q_H7, Q_H8, Q_H9, Q_X5_, Q_X7_⟩ hb_ hon hoff
            refine ⟨_, rfl, fun K hK => ?_⟩
            have e33 : a.tmps[33]? = some (.int .i64 (wrap64 (-x.1.1.f0))) := by rw [ha]; exact putSel_on (e := (3, 33, .int .i64 (wrap64 (-x.1.1.f0)))) 2 rfl rfl (hon 3 (by kernel_rfl)) rfl
            replace ha := Aside0.mk ha
            have HB := Aside0.mk Q_HB
            refine goes_ Try.func54 (by kernel_rfl) rfl #[.int .i64 (wrap64 (-x.1.1.f0))] (by rfl) rfl rfl (by first | (simp only [List.map_toArray, List.map_cons, List.map_nil, Act.eval, Array.getD_eq_getD_getElem?, Option.getD_some, e33]; done) | (simp only [List.map_toArray, List.map_cons, List.map_nil, Act.eval, Array.getD_eq_getD_getElem?, Option.getD_some, e33]; rfl)) ?_
            with_reducible refine (card_whole.calls _ _ _ _ rfl).mono ?_
            rintro e w4 ⟨rfl, hb4⟩
            refine ⟨_, rfl, ?_⟩
            refine hK.out _ _ ⟨b5, b7, m5_, m7_, (by rw [ha.out]; exact putSel_upk 3 hb_ rfl rfl rfl), HB.out.trans (hb4.mono HB.out.size), fun h0_ _ => absurd ((hoff 5 (by kernel_rfl)).symm.trans h0_) (by decide), fun h0_ h1_ => (Q_H7 h0_ h1_).below hb4, fun h0_ => absurd ((hoff 8 (by kernel_rfl)).symm.trans h0_) (by decide), fun h0_ => (Q_H9 h0_), fun h0_ => absurd ((hoff 5 (by kernel_rfl)).symm.trans h0_) (by decide), Q_X7_⟩
          refine steps_cons ?_ ?_
          · rintro b a w' ⟨b5, b7, m5_, m7_, ha, Q_HB, Q_H5, Q_H7, Q_H8, Q_H9, Q_X5_, Q_X7_⟩ hb_ hon hoff
            refine ⟨_, rfl, fun K hK => ?_⟩
            have e34 : a.tmps[34]? = some (.agg #[.int .i64 (wrap64 (-x.1.1.f0)), .int .i64 1]) := by rw [ha]; exact putSel_on (e := (4, 34, .agg #[.int .i64 (wrap64 (-x.1.1.f0)), .int .i64 1])) 3 rfl rfl (hon 4 (by kernel_rfl)) rfl
            replace ha := Aside0.mk ha
            have HB := Aside0.mk Q_HB
            refine value_ (w1 := ?_) (v := ?_) (by rfl) rfl ?_ ?_
            rotate_left 2
            · go_simp
              constructor
              · rfl
              · rfl
            refine hK.out _ _ ⟨w'.heap.size, b7, (.slice (some ⟨w'.heap.size, 0, none⟩) 1 1), m7_, (by rw [ha.out]; exact putSel_upk 4 hb_ rfl rfl rfl), HB.out.alloc HB.out.size _, fun _ _ => lit101 w' _ _, fun h0_ h1_ => (Q_H7 h0_ h1_).alloc _, fun h0_ => absurd ((hoff 8 (by kernel_rfl)).symm.trans h0_) (by decide), fun h0_ => (Q_H9 h0_), fun _ => rfl, Q_X7_⟩
          refine steps_cons ?_ ?_
          · rintro b a w' ⟨b5, b7, m5_, m7_, ha, Q_HB, Q_H5, Q_H7, Q_H8, Q_H9, Q_X5_, Q_X7_⟩ hb_ hon hoff
            refine ⟨_, rfl, fun K hK => ?_⟩
            have e30 : a.tmps[30]? = some (.agg #[.int .i64 n, .int .i64 d]) := by rw [ha]; exact putSel_on (e := (0, 30, .agg #[.int .i64 n, .int .i64 d])) 0 rfl rfl (hon 0 (by kernel_rfl)) rfl
            have e35 : a.tmps[35]? = some (m5_) := by rw [ha]; exact putSel_on (e := (5, 35, m5_)) 4 rfl rfl (hon 5 (by kernel_rfl)) rfl
            rw [Q_X5_ (hon 5 (by kernel_rfl))] at e35
            replace ha := Aside0.mk ha
            have HB := Aside0.mk Q_HB
            have H5 := Aside0.mk (Q_H5 (hon 5 (by kernel_rfl)) (hoff 8 (by kernel_rfl)))
            refine goes_ Try.func76 (by kernel_rfl) rfl #[.agg #[.int .i64 n, .int .i64 d], .slice (some ⟨b5, 0, none⟩) 1 1] (by rfl) rfl rfl (by first | (simp only [List.map_toArray, List.map_cons, List.map_nil, Act.eval, Array.getD_eq_getD_getElem?, Option.getD_some, e30, e35]; done) | (simp only [List.map_toArray, List.map_cons, List.map_nil, Act.eval, Array.getD_eq_getD_getElem?, Option.getD_some, e30, e35]; rfl)) ?_
            with_reducible refine (plus1 k _ _ (some ⟨b5, 0, none⟩) (wrap64 (-x.1.1.f0)) 1 p1 p2 _ H5.out hp).mono ?_
            rintro e w4 ⟨rfl, hb4⟩
            refine ⟨_, rfl, ?_⟩
            refine hK.out _ _ ⟨b5, b7, m5_, m7_, (by rw [ha.out]; exact putSel_upk 5 hb_ rfl rfl rfl), HB.out.trans (hb4.mono HB.out.size), fun _ _ => Kd.C_below H5.out hb4, fun h0_ h1_ => (Q_H7 h0_ h1_).below hb4, fun h0_ => absurd ((hoff 8 (by kernel_rfl)).symm.trans h0_) (by decide), fun h0_ => (Q_H9 h0_), Q_X5_, Q_X7_⟩
          refine steps_cons ?_ ?_
          · rintro b a w' ⟨b5, b7, m5_, m7_, ha, Q_HB, Q_H5, Q_H7, Q_H8, Q_H9, Q_X5_, Q_X7_⟩ hb_ hon hoff
            refine ⟨_, rfl, fun K hK => ?_⟩
            replace ha := Aside0.mk ha
            have HB := Aside0.mk Q_HB
            refine value_ (w1 := ?_) (v := ?_) (by rfl) rfl ?_ ?_
            rotate_left 2
            · go_simp
              constructor
              · rfl
              · rfl
            refine hK.out _ _ ⟨b5, w'.heap.size, m5_, (.pointer (some ⟨w'.heap.size, 0, none⟩)), (by rw [ha.out]; exact putSel_upk 6 hb_ rfl rfl rfl), HB.out.alloc HB.out.size _, fun h0_ h1_ => Kd.C_below (Q_H5 h0_ h1_) ((Below.alloc (Below.refl _ _) (Nat.le_refl _) _)), fun _ _ => Box2.new _ _ _ _, fun h0_ => absurd ((hoff 8 (by kernel_rfl)).symm.trans h0_) (by decide), fun _ => HB.out.size, Q_X5_, fun _ => rfl⟩
          refine steps_cons ?_ ?_
          · rintro b a w' ⟨b5, b7, m5_, m7_, ha, Q_HB, Q_H5, Q_H7, Q_H8, Q_H9, Q_X5_, Q_X7_⟩ hb_ hon hoff
            refine ⟨_, rfl, fun K hK => ?_⟩
            have e7 : a.tmps[7]? = some (m7_) := by rw [ha]; exact putSel_on (e := (7, 7, m7_)) 6 rfl rfl (hon 7 (by kernel_rfl)) rfl
            rw [Q_X7_ (hon 7 (by kernel_rfl))] at e7
            have e36 : a.tmps[36]? = some (.agg #[.int .i64 p1, .int .i64 p2]) := by rw [ha]; exact putSel_on (e := (6, 36, .agg #[.int .i64 p1, .int .i64 p2])) 5 rfl rfl (hon 6 (by kernel_rfl)) rfl
            replace ha := Aside0.mk ha
            have HB := Aside0.mk Q_HB
            have H5 := Aside0.mk (Q_H5 (hon 5 (by kernel_rfl)) hb_)
            have H7 := Aside0.mk (Q_H7 (hon 7 (by kernel_rfl)) hb_)
            have H9 := Aside0.mk (Q_H9 (hon 7 (by kernel_rfl)))
            have hc0 := H7.out.cell0
            have hc1 := H7.out.cell1
            have hf0 := H7.out.frozen0
            have hf1 := H7.out.frozen1
            refine skip_ (w1 := ?_) (by rfl) rfl ?_ ?_
            rotate_left
            · go_simp
              rfl
            refine hK.out _ _ ⟨b5, b7, m5_, m7_, (by rw [ha.out]; exact putSel_none (v := undef) rfl), (HB.out.setCell (p := ⟨b7, 0, none⟩) H9.out _).setCell (p := ⟨b7, 1, none⟩) H9.out _, fun _ h1_ => absurd ((up_self b 8).symm.trans h1_) (by decide), fun _ h1_ => absurd ((up_self b 8).symm.trans h1_) (by decide), fun _ => H7.out.set2 _ _, fun _ => H9.out, Q_X5_, Q_X7_⟩
          exact steps_nil
        · rintro b a w' hall ⟨b5, b7, m5_, m7_, ha, Q_HB, Q_H5, Q_H7, Q_H8, Q_H9, Q_X5_, Q_X7_⟩
          clear HB
          have hb0_ := hall 0 (by kernel_rfl)
          have hb2_ := hall 2 (by kernel_rfl)
          have hb3_ := hall 3 (by kernel_rfl)
          have hb4_ := hall 4 (by kernel_rfl)
          have hb5_ := hall 5 (by kernel_rfl)
          have hb6_ := hall 6 (by kernel_rfl)
          have hb7_ := hall 7 (by kernel_rfl)
          have hb8_ := hall 8 (by kernel_rfl)
          subst ha
          obtain rfl := Q_X5_ hb5_
          obtain rfl := Q_X7_ hb7_
          simp only [putSel, hb0_, hb2_, hb3_, hb4_, hb5_, hb6_, hb7_, hb8_, if_true, Act.put, List.setIfInBounds_toArray, List.set_cons_zero, List.set_cons_succ]
          have HB := Aside0.mk Q_HB
          clear Q_HB
          clear Q_H5
          clear Q_H7
          have H8 := Aside0.mk (Q_H8 hb8_)
          clear Q_H8
          have H9 := Aside0.mk (Q_H9 hb7_)
          clear Q_H9
          clear hall hb0_ hb2_ hb3_ hb4_ hb5_ hb6_ hb7_ hb8_
          refine H7_.out _ _ ?_
          clear H7_ K7
          refine wpIn_seq_k fun K8 h8 => ?_
          have H8_ := Aside0.mk h8
          clear h8
          have hu0 : (World.drew w').cell? ⟨Bx, 1, none⟩ = some (.int .i64 x.1.1.f1) := (cb0.below HB.out).cell1
          have hu1 : (World.drew w').cell? ⟨b7, 0, none⟩ = some (.int .i64 p1) := H8.out.cell0
          have hu2 : (World.drew w').cell? ⟨b7, 1, none⟩ = some (.int .i64 p2) := H8.out.cell1
          have hu3 : (World.drew w').cell? ⟨Bx + 1, 1, none⟩ = some (.int .i64 x.1.2.f1) := (cb1.below HB.out).cell1
          have hu4 : (World.drew w').cell? ⟨Bx + 1, 0, none⟩ = some (.int .i64 x.1.2.f0) := (cb1.below HB.out).cell0
          have hu5 : (World.drew w').cell? ⟨Bx, 0, none⟩ = some (.int .i64 x.1.1.f0) := (cb0.below HB.out).cell0
          have hu6 : Box2 (World.drew w') (w.heap.size + 1) 101 (.int .i64 0) (.int .i64 0) := (show Box2 w' _ _ _ _ from c4.below HB.out)
          clear hx0 hx1 hx3
          obtain ⟨W7, rfl⟩ : ∃ W7, W7 = w' := ⟨_, rfl⟩
          refine startIn_ (fun ⟨_, _, h⟩ => h) (by rfl) (n := 24) (S := fun w' => w'.cell? ⟨Bx, 1, none⟩ = some (.int .i64 x.1.1.f1) ∧ w'.cell? ⟨b7, 0, none⟩ = some (.int .i64 p1) ∧ w'.cell? ⟨b7, 1, none⟩ = some (.int .i64 p2) ∧ w'.cell? ⟨Bx + 1, 1, none⟩ = some (.int .i64 x.1.2.f1) ∧ w'.cell? ⟨Bx + 1, 0, none⟩ = some (.int .i64 x.1.2.f0) ∧ w'.cell? ⟨Bx, 0, none⟩ = some (.int .i64 x.1.1.f0) ∧ Box2 w' (w.heap.size + 1) 101 (.int .i64 0) (.int .i64 0)) (ds := [23]) #[false, false, false, false, false, false, false, false, false, false, false, false, false, false, false, false, false, false, false, false, false, false, false, false] (by kernel_rfl) rfl rfl ⟨hu0, hu1, hu2, hu3, hu4, hu5, hu6⟩ (fun hHeld => ?_)
          refine pz (i := 0) (N := some 37) (zA 24 1) rfl rfl (by kernel_rfl) ?_
          refine pz (i := 3) (N := some 40) (zA 24 9) rfl rfl (by kernel_rfl) ?_
          refine pz (i := 5) (N := some 42) (zA 24 41) rfl rfl (by kernel_rfl) ?_
          refine pz (i := 7) (N := some 44) (zA 24 169) rfl rfl (by kernel_rfl) ?_
          refine pz (i := 11) (N := some 48) (zA 24 2217) rfl rfl (by kernel_rfl) ?_
          refine pz (i := 13) (N := some 50) (zA 24 10409) rfl rfl (by kernel_rfl) ?_
          refine pz (i := 15) (N := some 52) (zA 24 43177) rfl rfl (by kernel_rfl) ?_
          refine take_ (i := 1) (N := some 38) (v := ?_) (a' := ?_) #[true, true, false, true, false, true, false, true, false, false, false, true, false, true, false, true, false, false, false, false, false, false, false, false] rfl rfl (by kernel_rfl) (fun _ _ _ h => h) (Or.inl ⟨by rfl, ?_⟩) hHeld ?_ ?_
          rotate_left
          · rintro w' ⟨s0, s1, s2, s3, s4, s5, s6⟩
            go_simp
            with_reducible rfl
          rotate_left
          · simp only [Act.put, List.setIfInBounds_toArray, List.set_cons_zero, List.set_cons_succ, i64_w, i32_w]
            rfl
          refine take_ (i := 4) (N := some 41) (v := ?_) (a' := ?_) #[true, true, false, true, true, true, false, true, false, false, false, true, false, true, false, true, false, false, false, false, false, false, false, false] rfl rfl (by kernel_rfl) (fun _ _ _ h => h) (Or.inl ⟨by rfl, ?_⟩) hHeld ?_ ?_
          rotate_left
          · rintro w' ⟨s0, s1, s2, s3, s4, s5, s6⟩
            go_simp
            with_reducible rfl
          rotate_left
          · simp only [Act.put, List.setIfInBounds_toArray, List.set_cons_zero, List.set_cons_succ, i64_w, i32_w]
            rfl
          refine take_ (i := 6) (N := some 43) (v := ?_) (a' := ?_) #[true, true, false, true, true, true, true, true, false, false, false, true, false, true, false, true, false, false, false, false, false, false, false, false] rfl rfl (by kernel_rfl) (fun _ _ _ h => h) (Or.inl ⟨by rfl, ?_⟩) hHeld ?_ ?_
          rotate_left
          · rintro w' ⟨s0, s1, s2, s3, s4, s5, s6⟩
            go_simp
            with_reducible rfl
          rotate_left
          · simp only [Act.put, List.setIfInBounds_toArray, List.set_cons_zero, List.set_cons_succ, i64_w, i32_w]
            rfl
          refine take_ (i := 8) (N := some 45) (v := ?_) (a' := ?_) #[true, true, false, true, true, true, true, true, true, false, false, true, false, true, false, true, false, false, false, false, false, false, false, false] rfl rfl (by kernel_rfl) (fun _ _ _ h => h) (Or.inl ⟨by rfl, ?_⟩) hHeld ?_ ?_
          rotate_left
          · rintro w' ⟨s0, s1, s2, s3, s4, s5, s6⟩
            go_simp
            with_reducible rfl
          rotate_left
          · simp only [Act.put, List.setIfInBounds_toArray, List.set_cons_zero, List.set_cons_succ, i64_w, i32_w]
            rfl
          refine pz (i := 9) (N := some 46) (zA 24 44027) rfl rfl (by kernel_rfl) ?_
          refine pz (i := 10) (N := some 47) (zA 24 45051) rfl rfl (by kernel_rfl) ?_
          refine take_ (i := 12) (N := some 49) (v := ?_) (a' := ?_) #[true, true, false, true, true, true, true, true, true, true, true, true, true, true, false, true, false, false, false, false, false, false, false, false] rfl rfl (by kernel_rfl) (fun _ _ _ h => h) (Or.inl ⟨by rfl, ?_⟩) hHeld ?_ ?_
          rotate_left
          · rintro w' ⟨s0, s1, s2, s3, s4, s5, s6⟩
            go_simp
            with_reducible rfl
          rotate_left
          · simp only [Act.put, List.setIfInBounds_toArray, List.set_cons_zero, List.set_cons_succ, i64_w, i32_w]
            rfl
          refine take_ (i := 14) (N := some 51) (v := ?_) (a' := ?_) #[true, true, false, true, true, true, true, true, true, true, true, true, true, true, true, true, false, false, false, false, false, false, false, false] rfl rfl (by kernel_rfl) (fun _ _ _ h => h) (Or.inl ⟨by rfl, ?_⟩) hHeld ?_ ?_
          rotate_left
          · rintro w' ⟨s0, s1, s2, s3, s4, s5, s6⟩
            go_simp
            with_reducible rfl
          rotate_left
          · simp only [Act.put, List.setIfInBounds_toArray, List.set_cons_zero, List.set_cons_succ, i64_w, i32_w]
            rfl
          refine take_ (i := 16) (N := some 53) (v := ?_) (a' := ?_) #[true, true, false, true, true, true, true, true, true, true, true, true, true, true, true, true, true, false, false, false, false, false, false, false] rfl rfl (by kernel_rfl) (fun _ _ _ h => h) (Or.inl ⟨by rfl, ?_⟩) hHeld ?_ ?_
          rotate_left
          · rintro w' ⟨s0, s1, s2, s3, s4, s5, s6⟩
            go_simp
            with_reducible rfl
          rotate_left
          · simp only [Act.put, List.setIfInBounds_toArray, List.set_cons_zero, List.set_cons_succ, i64_w, i32_w]
            rfl
          refine pz (i := 17) (N := some 54) (zA 24 262139) rfl rfl (by kernel_rfl) ?_
          refine pz (i := 18) (N := some 55) (zA 24 524283) rfl rfl (by kernel_rfl) ?_
          refine pz (i := 19) (N := some 56) (zA 24 1048571) rfl rfl (by kernel_rfl) ?_
          refine one_ (i := 2) (N := some 39) #[true, true, true, true, true, true, true, true, true, true, true, true, true, true, true, true, true, true, true, true, false, false, false, false] rfl rfl (by kernel_rfl) (by decide) (fun K hK => ?_)
          refine goes_ Try.func54 (by kernel_rfl) rfl #[.int .i64 x.1.1.f1] (by rfl) rfl rfl (by simp only [List.map_toArray, List.map_cons, List.map_nil]; rfl) ?_
          with_reducible refine (card_whole.calls _ _ _ _ rfl).mono ?_
          rintro e w6 ⟨rfl, hb6⟩
          refine ⟨_, rfl, ?_⟩
          refine hK.out _ _ ⟨(hb6.cell (World.block_lt_of_cell? _ _ hHeld.1)).trans hHeld.1, (hb6.cell (World.block_lt_of_cell? _ _ hHeld.2.1)).trans hHeld.2.1, (hb6.cell (World.block_lt_of_cell? _ _ hHeld.2.2.1)).trans hHeld.2.2.1, (hb6.cell (World.block_lt_of_cell? _ _ hHeld.2.2.2.1)).trans hHeld.2.2.2.1, (hb6.cell (World.block_lt_of_cell? _ _ hHeld.2.2.2.2.1)).trans hHeld.2.2.2.2.1, (hb6.cell (World.block_lt_of_cell? _ _ hHeld.2.2.2.2.2.1)).trans hHeld.2.2.2.2.2.1, hHeld.2.2.2.2.2.2.below hb6⟩ (fun hHeld => ?_)
          clear hK K
          refine norm_ (a' := ?_) ?_ ?_
          rotate_left
          · show Act.put _ (some 39) _ = _
            simp only [Act.put, List.setIfInBounds_toArray, List.set_cons_zero, List.set_cons_succ, i64_w, i32_w]
            rfl
          refine one_ (i := 20) (N := some 57) #[true, true, true, true, true, true, true, true, true, true, true, true, true, true, true, true, true, true, true, true, true, false, false, false] rfl rfl (by kernel_rfl) (by decide) (fun K hK => ?_)
          refine goes_ Try.func88 (by kernel_rfl) rfl #[.agg #[.int .i64 (wrap64 (p1 * wrap64 (x.1.2.f1 - x.1.1.f1))), .int .i64 (wrap64 (p2 * wrap64 (x.1.2.f0 - x.1.1.f0)))]] (by rfl) rfl rfl (by simp only [List.map_toArray, List.map_cons, List.map_nil]; rfl) ?_
          with_reducible refine (card_ratio_plain.calls k _ _ s1 s2 _ hs).mono ?_
          rintro e w7 ⟨rfl, hb7⟩
          refine ⟨_, rfl, ?_⟩
          refine hK.out _ _ ⟨(hb7.cell (World.block_lt_of_cell? _ _ hHeld.1)).trans hHeld.1, (hb7.cell (World.block_lt_of_cell? _ _ hHeld.2.1)).trans hHeld.2.1, (hb7.cell (World.block_lt_of_cell? _ _ hHeld.2.2.1)).trans hHeld.2.2.1, (hb7.cell (World.block_lt_of_cell? _ _ hHeld.2.2.2.1)).trans hHeld.2.2.2.1, (hb7.cell (World.block_lt_of_cell? _ _ hHeld.2.2.2.2.1)).trans hHeld.2.2.2.2.1, (hb7.cell (World.block_lt_of_cell? _ _ hHeld.2.2.2.2.2.1)).trans hHeld.2.2.2.2.2.1, hHeld.2.2.2.2.2.2.below hb7⟩ (fun hHeld => ?_)
          clear hK K
          refine norm_ (a' := ?_) ?_ ?_
          rotate_left
          · show Act.put _ (some 57) _ = _
            simp only [Act.put, List.setIfInBounds_toArray, List.set_cons_zero, List.set_cons_succ, i64_w, i32_w]
            rfl
          refine one_ (i := 21) (N := some 58) #[true, true, true, true, true, true, true, true, true, true, true, true, true, true, true, true, true, true, true, true, true, true, false, false] rfl rfl (by kernel_rfl) (by decide) (fun K hK => ?_)
          refine value_ (w1 := ?_) (v := ?_) (by rfl) rfl ?_ ?_
          rotate_left 2
          · go_simp
            constructor
            · rfl
            · rfl
          refine hK.out _ _ ⟨((Below.alloc (Below.refl _ _) (Nat.le_refl _) _).cell (World.block_lt_of_cell? _ _ hHeld.1)).trans hHeld.1, ((Below.alloc (Below.refl _ _) (Nat.le_refl _) _).cell (World.block_lt_of_cell? _ _ hHeld.2.1)).trans hHeld.2.1, ((Below.alloc (Below.refl _ _) (Nat.le_refl _) _).cell (World.block_lt_of_cell? _ _ hHeld.2.2.1)).trans hHeld.2.2.1, ((Below.alloc (Below.refl _ _) (Nat.le_refl _) _).cell (World.block_lt_of_cell? _ _ hHeld.2.2.2.1)).trans hHeld.2.2.2.1, ((Below.alloc (Below.refl _ _) (Nat.le_refl _) _).cell (World.block_lt_of_cell? _ _ hHeld.2.2.2.2.1)).trans hHeld.2.2.2.2.1, ((Below.alloc (Below.refl _ _) (Nat.le_refl _) _).cell (World.block_lt_of_cell? _ _ hHeld.2.2.2.2.2.1)).trans hHeld.2.2.2.2.2.1, hHeld.2.2.2.2.2.2.alloc _⟩ (fun hHeld => ?_)
          clear hK K
          refine norm_ (a' := ?_) ?_ ?_
          rotate_left
          · show Act.put _ (some 58) _ = _
            simp only [Act.put, List.setIfInBounds_toArray, List.set_cons_zero, List.set_cons_succ, i64_w, i32_w]
            rfl
          refine one_ (i := 22) (N := some 59) #[true, true, true, true, true, true, true, true, true, true, true, true, true, true, true, true, true, true, true, true, true, true, true, false] rfl rfl (by kernel_rfl) (by decide) (fun K hK => ?_)
          have hlit := lit101 w7 s1 s2
          refine goes_ Try.func76 (by kernel_rfl) rfl #[.agg #[.int .i64 x.1.1.f1, .int .i64 1], .slice (some ⟨w7.heap.size, 0, none⟩) 1 1] (by rfl) rfl rfl (by simp only [List.map_toArray, List.map_cons, List.map_nil]; rfl) ?_
          with_reducible refine (plus1 k _ _ (some ⟨w7.heap.size, 0, none⟩) s1 s2 e1 e2 _ hlit he).mono ?_
          rintro e w8 ⟨rfl, hb8⟩
          refine ⟨_, rfl, ?_⟩
          have hg := hHeld.2.2.2.2.2.2.below hb8
          have hg0 := hg.cell0
          have hg1 := hg.cell1
          have hf0 := hg.frozen0
          have hf1 := hg.frozen1
          refine hK.out _ _ ⟨(hb8.cell (World.block_lt_of_cell? _ _ hHeld.1)).trans hHeld.1, (hb8.cell (World.block_lt_of_cell? _ _ hHeld.2.1)).trans hHeld.2.1, (hb8.cell (World.block_lt_of_cell? _ _ hHeld.2.2.1)).trans hHeld.2.2.1, (hb8.cell (World.block_lt_of_cell? _ _ hHeld.2.2.2.1)).trans hHeld.2.2.2.1, (hb8.cell (World.block_lt_of_cell? _ _ hHeld.2.2.2.2.1)).trans hHeld.2.2.2.2.1, (hb8.cell (World.block_lt_of_cell? _ _ hHeld.2.2.2.2.2.1)).trans hHeld.2.2.2.2.2.1, hHeld.2.2.2.2.2.2.below hb8⟩ (fun hHeld => ?_)
          clear hK K
          refine norm_ (a' := ?_) ?_ ?_
          rotate_left
          · show Act.put _ (some 59) _ = _
            simp only [Act.put, List.setIfInBounds_toArray, List.set_cons_zero, List.set_cons_succ, i64_w, i32_w]
            rfl
          refine last_ (i := 23) (N := none) #[true, true, true, true, true, true, true, true, true, true, true, true, true, true, true, true, true, true, true, true, true, true, true, true] rfl rfl (by kernel_rfl) (by decide) (fun K hK => ?_)
          refine skip_ (w1 := ?_) (by rfl) rfl ?_ ?_
          rotate_left
          · go_simp
            rfl
          refine hK.out _ _ ?_
          clear hK K
          refine done_ (by kernel_rfl) ?_
          refine H8_.out _ _ ?_
          clear H8_ K8
          refine wpIn_ret ?_
          have hb78 : Below W7.heap.size W7 w8 := ((((Below.refl _ W7).drew.trans hb6).trans (hb7.mono hb6.size)).alloc (Nat.le_trans hb6.size hb7.size) _).trans (hb8.mono (by simp; exact Nat.le_succ_of_le (Nat.le_trans hb6.size hb7.size)))
          have hb38 : Below w3.heap.size w3 w8 := HB.out.trans (hb78.mono HB.out.size)
          have hbV8 : Below V.heap.size V w8 := hb13.trans (hb38.mono hb13.size)
          have hks : KeepsOthers w8 ((w8.setCell ⟨w.heap.size + 1, 0, none⟩ (.int .i64 e1)).setCell ⟨w.heap.size + 1, 1, none⟩ (.int .i64 e2)) := (KeepsOthers.setCell _ _ _).trans (KeepsOthers.setCell _ _ _)
          refine ⟨(keepsFrom_below hbV8).trans (hks.from _), rfl, ⟨pre, x, e1, e2, rfl, h3, hts, hev0.out, (h2.below hbV8).set2 _ _⟩, ?_⟩
          exact ((h4.trans (hbV8.mono h4.size)).setCell (p := ⟨w.heap.size + 1, 0, none⟩) (by simp) _).setCell (p := ⟨w.heap.size + 1, 1, none⟩) (by simp) _
      · rw [decide_eq_false ht]
        have hts : segTest n d x.1 = false := decide_eq_false ht
        refine wpIn_cond_false rfl ?_
        refine wpIn_skip ?_
        refine ⟨keepsFrom_below hb13, ⟨hb13.mono h4.size, hb13.block _ (by omega)⟩, ⟨c3, c4⟩, ?_, hV3, Nat.le_trans h5 hb13.size⟩
        intro y hy
        rcases List.mem_append.1 hy with hy | hy
        · exact h3 y hy
        · obtain rfl : y = x := by simpa using hy
          exact hts
    case done =>
      rintro D ys V hD hys ⟨⟨h1, h2⟩, h3, h4, h5⟩ hK
      have hnone : (segs l0).find? (segTest n d) = none := by
        rw [List.find?_eq_none]
        intro y hy
        rw [← hys] at hy
        obtain ⟨z, hz, rfl⟩ := List.mem_map.1 hy
        simp [h3 z hz]
      have hd := HDEV.out
      rw [hnone] at hd
      injection hd with hd
      injection hd with hd1 hd2
      subst hd1 hd2
      clear hnone HDEV
      have hDl : D < V.heap.size := (Array.getElem?_eq_some_iff.1 hK).1
      gi_wp2_with (refine ⟨trivial, ?_⟩; gi_at_call 54; refine (callsIn_wide.2 (card_whole.calls _ _ _ _ rfl)).mono ?_; rintro e V2 ⟨rfl, hbV⟩; have h2' := h2.below hbV; have hc0 := h2'.cell0; have hc1 := h2'.cell1; have hf0 := h2'.frozen0; have hf1 := h2'.frozen1)
      have hDV := (hbV.block D hDl).trans hK
      have hD2 : ((V2.setCell ⟨w.heap.size + 1, 0, none⟩ (.int .i64 0)).setCell ⟨w.heap.size + 1, 1, none⟩ (.int .i64 1)).heap[D]? = some (.deferred (some [])) := by
        rw [Below.heap_setCell _ _ _ _ (by simp; omega), Below.heap_setCell _ _ _ _ (by simp; omega)]; exact hDV
      refine ⟨by simp, .inl ⟨_, _, rfl, run_takeDeferred hD2, ?_⟩⟩
      have hB2 := (Box2.set2 h2' (.int .i64 0) (.int .i64 1)).below' hD2 (o := .deferred none)
      refine ⟨_, res53 hB2.cell0 hB2.cell1, rfl, ?_⟩
      exact (((h4.trans (hbV.mono h4.size)).setCell (p := ⟨w.heap.size + 1, 0, none⟩) (by simp) _).setCell (p := ⟨w.heap.size + 1, 1, none⟩) (by simp) _).trans (belowK_b (w := W0) hB0.size _ D _ _ hD hD2 rfl rfl)
    case stop =>
      rintro D c pre V hD hpre ⟨rfl, ⟨p, x, s1, s2, rfl, h2, h3, h4, h5⟩, h6⟩ hK
      have hd := HDEV.out
      obtain ⟨rest, hrs⟩ := hpre
      rw [← hrs, List.map_append, List.append_assoc, List.map_cons, List.map_nil, find_first (segTest n d) (p.map (·.1)) x.1 rest (fun y hy => by obtain ⟨z, hz, rfl⟩ := List.mem_map.1 hy; exact h2 z hz) h3] at hd
      replace hd : devAt k n d x.1 = some (r1, r2) := hd
      rw [h4] at hd
      injection hd with hd
      injection hd with hd1 hd2
      subst hd1 hd2
      refine wpIn_ret ?_
      refine ⟨by simp, .inl ⟨_, _, rfl, run_takeDeferred hK, ?_⟩⟩
      have hB2 := h5.below' hK (o := .deferred none)
      refine ⟨_, res53 hB2.cell0 hB2.cell1, rfl, ?_⟩
      exact h6.trans (belowK_b (w := W0) hB0.size _ D _ _ hD hK rfl rfl)
  clear H1
  obtain ⟨W1, hW1⟩ : ∃ W1, (w.alloc (.cells #[.int .i64 a1_0, .int .i64 a1_1] 101)).alloc (.cells #[.int .i64 0, .int .i64 0] 101) = W1 := ⟨_, rfl⟩
  have hB1 : Below w.heap.size w W1 := by rw [← hW1]; exact ((Below.refl _ w).alloc (Nat.le_refl _) _).alloc (by simp) _
  have b3 : Box2 W1 w.heap.size 101 (.int .i64 a1_0) (.int .i64 a1_1) := by rw [← hW1]; exact (Box2.new _ _ _ _).alloc _
  have b4 : Box2 W1 (w.heap.size + 1) 101 (.int .i64 0) (.int .i64 0) := by
    have := Box2.new (w.alloc (.cells #[.int .i64 a1_0, .int .i64 a1_1] 101)) 101 (.int .i64 0) (.int .i64 0)
    rw [World.size_alloc] at this
    rw [← hW1]; exact this
  rw [hW1]
  clear hW1
  have hz0 : W1.drew.cell? ⟨w.heap.size, 0, none⟩ = some (.int .i64 a1_0) := b3.cell0
  have hz1 : W1.drew.cell? ⟨w.heap.size, 1, none⟩ = some (.int .i64 a1_1) := b3.cell1
  replace hz2 : W1.drew.cell? ad = some (.int .i64 (rd_T55 l0 0).f0) := (hB1.cell hadlt).trans hz2
  have hne : (l0 = []) = False := by simp; intro e; rw [e] at hpos; simp at hpos
  refine wpIn_seq_k fun K2 h2 => ?_
  have H2 := Aside0.mk h2
  clear h2 hz3
  refine wpIn_wide.2 ?_
  refine start_ (n := 8) (S := fun w' => w'.cell? ⟨w.heap.size, 0, none⟩ = some (.int .i64 a1_0) ∧ w'.cell? ⟨w.heap.size, 1, none⟩ = some (.int .i64 a1_1) ∧ w'.cell? ad = some (.int .i64 (rd_T55 l0 0).f0)) (ds := []) #[false, false, false, false, false, false, false, false] (by kernel_rfl) rfl rfl ⟨hz0, hz1, hz2⟩ (fun hHeld => ?_)
  refine pz (i := 1) (N := some 9) (zA 8 2) rfl rfl (by kernel_rfl) ?_
  refine pz (i := 2) (N := some 10) (zA 8 6) rfl rfl (by kernel_rfl) ?_
  refine pz (i := 3) (N := some 11) (zA 8 14) rfl rfl (by kernel_rfl) ?_
  refine take_ (i := 0) (N := some 8) (v := ?_) (a' := ?_) #[true, true, true, true, false, false, false, false] rfl rfl (by kernel_rfl) (fun _ _ _ h => h) (Or.inl ⟨by rfl, ?_⟩) hHeld ?_ ?_
  rotate_left
  · rintro w' ⟨s0, s1, s2⟩
    go_simp
    with_reducible rfl
  rotate_left
  · simp only [Act.put, List.setIfInBounds_toArray, List.set_cons_zero, List.set_cons_succ, i64_w, i32_w]
    rfl
  refine take_ (i := 4) (N := some 12) (v := ?_) (a' := ?_) #[true, true, true, true, true, false, false, false] rfl rfl (by kernel_rfl) (fun _ _ _ h => h) (Or.inl ⟨by rfl, ?_⟩) hHeld ?_ ?_
  rotate_left
  · rintro w' ⟨s0, s1, s2⟩
    go_simp
    with_reducible rfl
  rotate_left
  · simp only [Act.put, List.setIfInBounds_toArray, List.set_cons_zero, List.set_cons_succ, i64_w, i32_w]
    rfl
  refine one_ (i := 5) (N := some 13) #[true, true, true, true, true, true, false, false] rfl rfl (by kernel_rfl) (by decide) (fun K hK => ?_)
  refine goes_ Try.func54 (by kernel_rfl) rfl #[.int .i64 (rd_T55 l0 0).f0] (by rfl) rfl rfl (by simp only [List.map_toArray, List.map_cons, List.map_nil]; rfl) ?_
  with_reducible refine (card_whole.calls _ _ _ _ rfl).mono ?_
  rintro e w2 ⟨rfl, hb2⟩
  refine ⟨_, rfl, ?_⟩
  refine hK.out _ _ ⟨(hb2.cell (World.block_lt_of_cell? _ _ hHeld.1)).trans hHeld.1, (hb2.cell (World.block_lt_of_cell? _ _ hHeld.2.1)).trans hHeld.2.1, (hb2.cell (World.block_lt_of_cell? _ _ hHeld.2.2)).trans hHeld.2.2⟩ (fun hHeld => ?_)
  clear hK K
  refine norm_ (a' := ?_) ?_ ?_
  rotate_left
  · show Act.put _ (some 13) _ = _
    simp only [Act.put, List.setIfInBounds_toArray, List.set_cons_zero, List.set_cons_succ, i64_w, i32_w]
    rfl
  refine one_ (i := 6) (N := some 14) #[true, true, true, true, true, true, true, false] rfl rfl (by kernel_rfl) (by decide) (fun K hK => ?_)
  refine goes_ Try.func86 (by kernel_rfl) rfl #[.agg #[.int .i64 a1_0, .int .i64 a1_1], .agg #[.int .i64 (rd_T55 l0 0).f0, .int .i64 1]] (by rfl) rfl rfl (by simp only [List.map_toArray, List.map_cons, List.map_nil]; rfl) ?_
  with_reducible refine (card_ratio_compare.calls _ _ _ _ _ _ (compare_f _ _ _)).mono ?_
  rintro e w3 ⟨rfl, hb3⟩
  refine ⟨_, rfl, ?_⟩
  refine hK.out _ _ ⟨(hb3.cell (World.block_lt_of_cell? _ _ hHeld.1)).trans hHeld.1, (hb3.cell (World.block_lt_of_cell? _ _ hHeld.2.1)).trans hHeld.2.1, (hb3.cell (World.block_lt_of_cell? _ _ hHeld.2.2)).trans hHeld.2.2⟩ (fun hHeld => ?_)
  clear hK K
  refine norm_ (a' := ?_) ?_ ?_
  rotate_left
  · show Act.put _ (some 14) _ = _
    simp only [Act.put, List.setIfInBounds_toArray, List.set_cons_zero, List.set_cons_succ, i64_w, i32_w]
    rfl
  refine pz (i := 7) (N := some 15) (zA 8 255) rfl rfl (by kernel_rfl) ?_
  refine done_ (by kernel_rfl) ?_
  refine H2.out _ _ ?_
  clear H2 K2
  have hb13 : Below W1.heap.size W1 w3 := ((Below.refl _ W1).drew.trans hb2).trans (hb3.mono hb2.size)
  have c3 := b3.below hb13
  have c4 := b4.below hb13
  have hB3 := hB1.trans (hb13.mono hB1.size)
  clear hHeld hz0 hz1 hz2
  by_cases ht : cmp3 (wrap64 a1_0) (wrap64 ((rd_T55 l0 0).f0 * a1_1)) < 0
  · have hr := H.out
    rw [if_pos ht] at hr
    obtain ⟨⟨q1, q2⟩, hq, hr⟩ := Option.bind_eq_some_iff.mp hr
    rw [decide_eq_true ht]
    have HQ := Aside0.mk hr
    clear hr H ht
    have hy0 : w3.drew.cell? ⟨w.heap.size, 0, none⟩ = some (.int .i64 a1_0) := c3.cell0
    have hy1 : w3.drew.cell? ⟨w.heap.size, 1, none⟩ = some (.int .i64 a1_1) := c3.cell1
    have hyb : Box2 w3.drew w.heap.size 101 (.int .i64 a1_0) (.int .i64 a1_1) := c3
    refine wpIn_cond_true rfl ?_
    refine wpIn_wide.2 ?_
    refine start_ (n := 5) (S := fun w' => w'.cell? ⟨w.heap.size, 0, none⟩ = some (.int .i64 a1_0) ∧ w'.cell? ⟨w.heap.size, 1, none⟩ = some (.int .i64 a1_1) ∧ Box2 w' w.heap.size 101 (.int .i64 a1_0) (.int .i64 a1_1)) (ds := [4]) #[false, false, false, false, false] (by kernel_rfl) rfl rfl ⟨hy0, hy1, hyb⟩ (fun hHeld => ?_)
    refine take_ (i := 0) (N := some 16) (v := ?_) (a' := ?_) #[true, false, false, false, false] rfl rfl (by kernel_rfl) (fun _ _ _ h => h) (Or.inl ⟨by rfl, ?_⟩) hHeld ?_ ?_
    rotate_left
    · rintro w' ⟨s0, s1, s2⟩
      go_simp
      with_reducible rfl
    rotate_left
    · simp only [Act.put, List.setIfInBounds_toArray, List.set_cons_zero, List.set_cons_succ, i64_w, i32_w]
      rfl
    refine one_ (i := 1) (N := some 17) #[true, true, false, false, false] rfl rfl (by kernel_rfl) (by decide) (fun K hK => ?_)
    refine goes_ Try.func54 (by kernel_rfl) rfl #[.int .i64 3600] (by rfl) rfl rfl (by simp only [List.map_toArray, List.map_cons, List.map_nil]; rfl) ?_
    with_reducible refine (card_whole.calls _ _ _ _ rfl).mono ?_
    rintro e w4 ⟨rfl, hb4⟩
    refine ⟨_, rfl, ?_⟩
    refine hK.out _ _ ⟨(hb4.cell (World.block_lt_of_cell? _ _ hHeld.1)).trans hHeld.1, (hb4.cell (World.block_lt_of_cell? _ _ hHeld.2.1)).trans hHeld.2.1, hHeld.2.2.below hb4⟩ (fun hHeld => ?_)
    clear hK K
    refine norm_ (a' := ?_) ?_ ?_
    rotate_left
    · show Act.put _ (some 17) _ = _
      simp only [Act.put, List.setIfInBounds_toArray, List.set_cons_zero, List.set_cons_succ, i64_w, i32_w]
      rfl
    refine one_ (i := 2) (N := some 18) #[true, true, true, false, false] rfl rfl (by kernel_rfl) (by decide) (fun K hK => ?_)
    refine value_ (w1 := ?_) (v := ?_) (by rfl) rfl ?_ ?_
    rotate_left 2
    · go_simp
      constructor
      · rfl
      · rfl
    refine hK.out _ _ ⟨((Below.alloc (Below.refl _ _) (Nat.le_refl _) _).cell (World.block_lt_of_cell? _ _ hHeld.1)).trans hHeld.1, ((Below.alloc (Below.refl _ _) (Nat.le_refl _) _).cell (World.block_lt_of_cell? _ _ hHeld.2.1)).trans hHeld.2.1, hHeld.2.2.alloc _⟩ (fun hHeld => ?_)
    clear hK K
    refine norm_ (a' := ?_) ?_ ?_
    rotate_left
    · show Act.put _ (some 18) _ = _
      simp only [Act.put, List.setIfInBounds_toArray, List.set_cons_zero, List.set_cons_succ, i64_w, i32_w]
      rfl
    refine one_ (i := 3) (N := some 19) #[true, true, true, true, false] rfl rfl (by kernel_rfl) (by decide) (fun K hK => ?_)
    have hlit := lit101 w4 3600 1
    refine goes_ Try.func76 (by kernel_rfl) rfl #[.agg #[.int .i64 a1_0, .int .i64 a1_1], .slice (some ⟨w4.heap.size, 0, none⟩) 1 1] (by rfl) rfl rfl (by simp only [List.map_toArray, List.map_cons, List.map_nil]; rfl) ?_
    with_reducible refine (plus1 k _ _ (some ⟨w4.heap.size, 0, none⟩) 3600 1 q1 q2 _ hlit hq).mono ?_
    rintro e w5 ⟨rfl, hb5⟩
    refine ⟨_, rfl, ?_⟩
    have hbx := hHeld.2.2.below hb5
    have hg0 := hbx.cell0
    have hg1 := hbx.cell1
    have hf0 := hbx.frozen0
    have hf1 := hbx.frozen1
    refine hK.out _ _ ⟨(hb5.cell (World.block_lt_of_cell? _ _ hHeld.1)).trans hHeld.1, (hb5.cell (World.block_lt_of_cell? _ _ hHeld.2.1)).trans hHeld.2.1, hHeld.2.2.below hb5⟩ (fun hHeld => ?_)
    clear hK K
    refine norm_ (a' := ?_) ?_ ?_
    rotate_left
    · show Act.put _ (some 19) _ = _
      simp only [Act.put, List.setIfInBounds_toArray, List.set_cons_zero, List.set_cons_succ, i64_w, i32_w]
      rfl
    refine last_ (i := 4) (N := none) #[true, true, true, true, true] rfl rfl (by kernel_rfl) (by decide) (fun K hK => ?_)
    refine skip_ (w1 := ?_) (by rfl) rfl ?_ ?_
    rotate_left
    · go_simp
      rfl
    refine hK.out _ _ ?_
    clear hK K
    refine done_ (by kernel_rfl) ?_
    have hb35 : Below w3.heap.size w3 w5 := (((Below.refl _ w3).drew.trans hb4).alloc hb4.size _).trans (hb5.mono (by simp; exact Nat.le_succ_of_le hb4.size))
    exact hrest _ _ _ _ _ _ _ _ _ _ _ _ _ _ _ HQ.out ((c3.below hb35).set2 _ _) (((c4.below hb35).other (by simp) _).other (by simp) _) (((hB3.trans (hb35.mono hB3.size)).setCell (p := ⟨w.heap.size, 0, none⟩) (Nat.le_refl _) _).setCell (p := ⟨w.heap.size, 1, none⟩) (Nat.le_refl _) _)
  · have hr := H.out
    rw [if_neg ht] at hr
    rw [decide_eq_false ht]
    refine wpIn_cond_false rfl ?_
    refine wpIn_skip ?_
    exact hrest _ _ _ _ _ _ _ _ _ _ _ _ _ _ _ hr c3 c4 hB3
end Go.Proofs.Ytccjefoejjnccaa.H
