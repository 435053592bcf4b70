/- What is proved here: the compass courses of a magnetic heading are told as Go tells them, for every card whose points are as stated. -/
import Derived.Test.YtccjefoejjnccaaH4
import Derived.Test.YtccjefoejjnccaaZ
namespace Go.Proofs.Ytccjefoejjnccaa.H
open Go.RowKit Go.Shelf Go.Proofs.Ytccjefoejjnccaa.C Go.Proofs.YtccjefoejjnccaaH Go.Proofs.YtccjefoejjnccaaW.PrintWords Go.Proofs.YtccjefoejjnccaaW.PrintLast Go.Proofs.YtccjefoejjnccaaW.PrintMore
attribute [local go_sem] Oper.semAt_some max2_int min2_int max_two min_two
set_option linter.unusedSimpArgs false
set_option linter.unusedVariables false
/-- A point as stated. -/
def ptB (p : S55) : Bool := decide (0 ≤ p.f0 ∧ p.f0 < 3600 ∧ -900 ≤ p.f1 ∧ p.f1 ≤ 900)
def segLo (x : S55 × S55) : Int := mn (x.1.f0 + x.1.f1) (x.2.f0 + x.2.f1)
def segHi (x : S55 × S55) : Int := mx (x.1.f0 + x.1.f1) (x.2.f0 + x.2.f1)
/-- The magnetic heading, some turns on, from the lower end of a segment on. -/
def solM (mag : Int) (x : S55 × S55) (i : Nat) : Int := segLo x + (mag - segLo x) % 3600 + 3600 * i
/-- How many of them lie on the segment. -/
def solN (mag : Int) (x : S55 × S55) : Nat := ((segHi x - solM mag x 0) / 3600 + 1).toNat
/-- The compass course on a segment that leads to a magnetic one. -/
def courseAt (k : Nat) (x : S55 × S55) (m : Int) : Option (Int × Int) :=
  (card_ratio_plain.f k (wrap64 ((m - (x.1.f0 + x.1.f1)) * (x.2.f0 - x.1.f0))) (x.2.f0 + x.2.f1 - (x.1.f0 + x.1.f1))).bind fun t => (card_ratio_plus.f k t.1 t.2 [⟨x.1.f0, 1⟩]).bind fun p => card_ratio_around.f p.1 p.2
def solsTo (k : Nat) (mag : Int) (x : S55 × S55) : Nat → Option (List S101)
  | 0 => some []
  | i + 1 => (solsTo k mag x i).bind fun l => if solM mag x i = x.2.f0 + x.2.f1 then some l else (courseAt k x (solM mag x i)).bind fun v => some (l ++ [⟨v.1, v.2⟩])
def segSols (k : Nat) (mag : Int) (x : S55 × S55) : Option (List S101) := solsTo k mag x (solN mag x)
/-- A segment on which all compass headings have this magnetic course. -/
def flatHit (mag : Int) (x : S55 × S55) : Bool := decide (segLo x = segHi x ∧ 0 < solN mag x)
def okR (r : S101) : Bool := decide (1 ≤ r.f1 ∧ r.f1 ≤ 1000000 ∧ -1000000000000 ≤ r.f0 ∧ r.f0 ≤ 1000000000000 ∧ Int.gcd r.f0 r.f1 = 1)
def solsAll (k : Nat) (mag : Int) (xs : List (S55 × S55)) : List S101 := xs.flatMap fun x => (segSols k mag x).getD []
def card_Card_courses.f (k : Nat) (l0 : List S55) (mag : Int) : Option (List S101 × Bool) :=
  if 0 < l0.length ∧ l0.length ≤ 1000 ∧ 0 ≤ mag ∧ mag < 3600 ∧ l0.all ptB = true ∧ (segs l0).all (fun x => flatHit mag x || (segSols k mag x).isSome) = true then
    (if (segs l0).any (flatHit mag) then some ([], false)
     else if (solsAll k mag (segs l0)).all okR && decide ((solsAll k mag (segs l0)).length ≤ 1000000) then some ((solsAll k mag (segs l0)).mergeSort (fun x y => !ltR y x), true) else none)
  else none
theorem seg_bounds {l0 : List S55} (h : l0.all ptB = true) {x : S55 × S55} (hx : x ∈ segs l0) :
    0 ≤ x.1.f0 ∧ x.1.f0 < 3600 ∧ -900 ≤ x.1.f1 ∧ x.1.f1 ≤ 900 ∧ 0 ≤ x.2.f0 ∧ x.2.f0 < 7200 ∧ -900 ≤ x.2.f1 ∧ x.2.f1 ≤ 900 := by
  have hp : ∀ i : Int, 0 ≤ i → i < l0.length → 0 ≤ (rd_T55 l0 i).f0 ∧ (rd_T55 l0 i).f0 < 3600 ∧ -900 ≤ (rd_T55 l0 i).f1 ∧ (rd_T55 l0 i).f1 ≤ 900 := by
    intro i h0 h1
    have hi : i.toNat < l0.length := by omega
    have := List.all_eq_true.1 h (l0[i.toNat]) (List.getElem_mem hi)
    simp only [ptB, decide_eq_true_eq] at this
    unfold rd_T55
    rw [List.getD_eq_getElem?_getD, List.getElem?_eq_getElem hi]
    exact this
  obtain ⟨i, hi, rfl⟩ := List.mem_map.1 hx
  have hi := List.mem_range.1 hi
  have h1 := hp i (by omega) (by omega)
  unfold seg
  split
  · have h2 := hp 0 (by omega) (by omega)
    have hw : wrap64 ((rd_T55 l0 0).f0 + 3600) = (rd_T55 l0 0).f0 + 3600 := by unfold wrap64; omega
    simp only [hw]
    omega
  · have h2 := hp ((i : Int) + 1) (by omega) (by omega)
    dsimp only
    omega
theorem course_f (a b : Int) (h0 : 0 ≤ a) (h1 : a < 7200) (h2 : -900 ≤ b) (h3 : b ≤ 900) : card_Point_course.f a b = some (a + b) := by
  unfold card_Point_course.f
  rw [show wrap64 (a + b) = a + b by unfold wrap64; omega]
theorem info101 : (Try.prog.info? 101).map (fun i => (i.zero, i.size, i.bytes)) = some (some (.agg #[.int .i64 0, .int .i64 0]), 2, 16) := by kernel_rfl
def NoFlat (mag : Int) {l0 : List S55} (pre : List { x : S55 × S55 // x ∈ segs l0 }) : Prop := ∀ y ∈ pre, flatHit mag y.1 = false
def SomeFlat (mag : Int) {l0 : List S55} (pre : List { x : S55 × S55 // x ∈ segs l0 }) : Prop := ∃ y ∈ pre, flatHit mag y.1 = true
theorem R_setLow {α : Type} {d : Kd α} {e : Nat} {w : World} {base : Nat} {ok : Nat → Prop} {v : Value} {xs : List α} (h : d.R e w base ok v xs) {p : Addr} (hb : p.block < base) (u : Value) : d.R e (w.setCell p u) base ok v xs :=
  Kd.R_mono (Kd.R_far (Kd.R_bound h) (fun k hk e => by have := hk.2.1; omega) u) (fun k hk => hk.1)
theorem m0_eq {lo mag : Int} (h0 : -900 ≤ lo) (h1 : lo < 8100) (h2 : 0 ≤ mag) (h3 : mag < 3600) : wrap64 (lo + (wrap64 ((mag - lo).tmod 3600 + 3600)).tmod 3600) = lo + (mag - lo) % 3600 := by
  have e1 : (mag - lo).tmod 3600 = (mag - lo) % 3600 - (if 0 ≤ mag - lo ∨ (3600 : Int) ∣ mag - lo then 0 else 3600) := by
    rw [Int.tmod_eq_emod]
    by_cases hc : 0 ≤ mag - lo ∨ (3600 : Int) ∣ mag - lo <;> simp only [hc, if_true, if_false] <;> rfl
  have e2 : (mag - lo).tmod 3600 + 3600 ≥ 0 ∧ ((mag - lo).tmod 3600 + 3600) % 3600 = (mag - lo) % 3600 ∧ (mag - lo).tmod 3600 + 3600 < 7200 := by
    rw [e1]; split <;> omega
  obtain ⟨h4, h5, h6⟩ := e2
  rw [show wrap64 ((mag - lo).tmod 3600 + 3600) = (mag - lo).tmod 3600 + 3600 by unfold wrap64; omega, Int.tmod_eq_emod_of_nonneg h4, h5]
  unfold wrap64; omega
theorem solsTo_le {k : Nat} {mag : Int} {x : S55 × S55} {j : Nat} : ∀ {n : Nat}, j ≤ n → (solsTo k mag x n).isSome = true → ∃ l, solsTo k mag x j = some l := by
  intro n
  induction n with
  | zero => intro hj h; obtain rfl : j = 0 := by omega
            exact ⟨[], rfl⟩
  | succ n ih =>
    intro hj h
    rcases Nat.lt_or_ge j (n + 1) with hj' | hj'
    · refine ih (by omega) ?_
      obtain ⟨v, hv⟩ := Option.isSome_iff_exists.1 h
      unfold solsTo at hv
      obtain ⟨l, hl, _⟩ := Option.bind_eq_some_iff.mp hv
      rw [hl]; rfl
    · obtain rfl : j = n + 1 := by omega
      exact Option.isSome_iff_exists.1 h
theorem solsTo_length {k : Nat} {mag : Int} {x : S55 × S55} : ∀ {n : Nat} {l : List S101}, solsTo k mag x n = some l → l.length ≤ n
  | 0, l, h => by unfold solsTo at h; cases h; simp
  | n + 1, l, h => by
    unfold solsTo at h
    obtain ⟨l', hl, h⟩ := Option.bind_eq_some_iff.mp h
    have := solsTo_length hl
    split at h
    · cases h; omega
    · obtain ⟨v, _, h⟩ := Option.bind_eq_some_iff.mp h
      cases h; simp; omega
theorem solN_le (mag : Int) {l0 : List S55} (h : l0.all ptB = true) {x : S55 × S55} (hx : x ∈ segs l0) : solN mag x ≤ 3 := by
  obtain ⟨h1, h2, h3, h4, h5, h6, h7, h8⟩ := seg_bounds h hx
  have e1 : segHi x < segLo x + 9100 := by unfold segHi segLo mx mn; split <;> split <;> omega
  unfold solN solM
  omega
theorem solsAll_length (k : Nat) (mag : Int) {l0 : List S55} (h : l0.all ptB = true) : ∀ (xs : List (S55 × S55)), (∀ x ∈ xs, x ∈ segs l0) → (solsAll k mag xs).length ≤ 3 * xs.length
  | [], _ => by simp [solsAll]
  | x :: xs, hx => by
    have ih := solsAll_length k mag h xs (fun y hy => hx y (by simp [hy]))
    have h0 := solN_le mag h (hx x (by simp))
    have h1 : ((segSols k mag x).getD []).length ≤ solN mag x := by
      cases he : segSols k mag x with
      | none => simp
      | some l => exact solsTo_length he
    unfold solsAll at ih ⊢
    rw [List.flatMap_cons, List.length_append, List.length_cons]
    omega
theorem solsAll_snoc (k : Nat) (mag : Int) (xs : List (S55 × S55)) (x : S55 × S55) {ys : List S101} (h : segSols k mag x = some ys) : solsAll k mag (xs ++ [x]) = solsAll k mag xs ++ ys := by
  unfold solsAll
  rw [List.flatMap_append]
  simp [h]
theorem R_kept {α : Type} {d : Kd α} {e : Nat} {w w1 : World} {base : Nat} {ok : Nat → Prop} {v : Value} {xs : List α} {row : Option Nat} (h : d.R e w base ok v xs) (hg : w.grownBy w1 row) (hr : ∀ r, row = some r → ∃ o : Obj, w.heap[r]? = some o ∧ o.isCells = false) : d.R e w1 base ok v xs := by
  refine Kd.R_mono (Kd.R_grown (Kd.R_bound h) hg (fun k hk e' => ?_)) (fun k hk => hk.1)
  obtain ⟨_, _, _, q, _, cells, hc⟩ := hk
  obtain ⟨o, ho, hn⟩ := hr k e'.symm
  rw [hc] at ho; cases ho; cases hn
theorem _root_.Go.RowKit.Below.tr {a b c : World} (h1 : Below a.heap.size a b) (h2 : Below b.heap.size b c) : Below a.heap.size a c := h1.trans (h2.mono h1.size)
theorem _root_.Go.RowKit.Below.al {a b : World} (h1 : Below a.heap.size a b) (o : Obj) : Below a.heap.size a (b.alloc o) := h1.alloc h1.size o
theorem R_row {α : Type} {d : Kd α} {e : Nat} {w : World} {base : Nat} {ok : Nat → Prop} {v : Value} {xs : List α} (h : d.R e w base ok v xs) : ∀ j, v.ownBlock = some j → ∃ (cur : Array Value) (p : Nat × Nat), w.heap[j]? = some (.cells cur e p) := by
  intro j ej
  obtain ⟨ys, hrow⟩ := Kd.R_own h
  rcases hrow.2 with ⟨rfl, _⟩ | ⟨g, cap, cur, rfl, _, hgb, _⟩
  · simp [Value.ownBlock] at ej
  · obtain rfl : g = j := by simpa [Value.ownBlock] using ej
    exact ⟨_, _, hgb⟩
theorem box2_grown {d : Kd S101} {W W1 : World} {b : Nat} {u u' v : Value} {base : Nat} {ok : Nat → Prop} {xs : List S101} (h : Box2 W b 55 u u') (hR : d.R 101 W base ok v xs) (hg : W.grownBy W1 v.ownBlock) : Box2 W1 b 55 u u' := by
  refine (hg.block b h.lt fun e => ?_).trans h
  obtain ⟨cur, p, hc⟩ := R_row hR b e.symm
  have := (show W.heap[b]? = _ from h).symm.trans hc
  cases this
theorem box2_set {W : World} {b c : Nat} {t : TypeId} {u u' v : Value} (hne : c ≠ b) (h : Box2 W c t u u') : Box2 (W.setCell ⟨b, 0, none⟩ v) c t u u' :=
  ((grownBy_setCell' W b v).block c h.lt (by simpa using hne)).trans h
theorem KpS_mk {B b : Nat} {X Y : World} (h : Below B X Y) (hb : Y.heap[b]? = X.heap[b]?) : KpS B b X Y := ⟨h, hb⟩
theorem below_cell {W : World} {p : Addr} {v : Value} {D : Nat} {c : Option (List Deferred)} (hK : W.heap[D]? = some (.deferred c)) {o : Obj} (h : W.cell? p = some v) : (W.putObj D o).cell? p = some v := by
  have hne : p.block ≠ D := fun e => by
    unfold World.cell? at h
    rw [e, hK] at h
    simp at h
  unfold World.cell? at h ⊢
  rw [World.putObj_heap_other hne]
  exact h
theorem res64 {tmps : Array Value} {W : World} {b c : Nat} {u v : Value} (h0 : W.cell? ⟨b, 0, none⟩ = some u) (h1 : W.cell? ⟨c, 0, none⟩ = some v) (ht : tmps[4]? = some (.pointer (some ⟨b, 0, none⟩)) := by rfl) (ht2 : tmps[5]? = some (.pointer (some ⟨c, 0, none⟩)) := by rfl) : (results Try.f64 tmps).run Try.prog W = .ok (.tuple #[u, v]) W := by
  have hu111 := Try.underlying111
  have hu4 := Try.underlying4
  simp [results, Try.results64, go_sem, Array.getD_eq_getD_getElem?, ht, ht2, h0, h1]
theorem reps_flat {α : Type} {P : α → List Value → Prop} {enc : α → List Value} (hk : ∀ x, (enc x).length = 2) (hP : ∀ x cs, P x cs → cs = enc x) : ∀ {xs : List α} {cs : List Value}, Reps P 2 xs cs → cs = xs.flatMap enc
  | [], cs, h => by
    have := h.1
    simp at this
    simpa using this
  | x :: xs, cs, h => by
    have h0 := hP _ _ (h.2 0 x rfl)
    have hl := h.1
    simp only [List.length_cons] at hl
    have h1 : Reps P 2 xs (cs.drop 2) := ⟨by simp; omega, fun j p hj => by
      have := h.2 (j + 1) p (by simpa using hj)
      rw [List.drop_drop]
      rwa [show (j + 1) * 2 = 2 + j * 2 by omega] at this⟩
    have h2 := reps_flat hk hP h1
    rw [List.flatMap_cons, ← h2, ← h0]
    simp
theorem flat_reps {α : Type} {P : α → List Value → Prop} {enc : α → List Value} (hk : ∀ x, (enc x).length = 2) (hP : ∀ x, P x (enc x)) : ∀ (xs : List α), Reps P 2 xs (xs.flatMap enc)
  | [] => Reps.none _ _
  | x :: xs => by
    have ih := flat_reps hk hP xs
    refine ⟨by rw [List.flatMap_cons, List.length_append, hk, ih.1, List.length_cons]; omega, fun j p hj => ?_⟩
    rw [List.flatMap_cons]
    cases j with
    | zero =>
      obtain rfl : x = p := by simpa using hj
      rw [Nat.zero_mul, List.drop_zero, List.take_append_of_le_length (by rw [hk]; omega), List.take_of_length_le (by rw [hk]; omega)]
      exact hP _
    | succ j =>
      have := ih.2 j p (by simpa using hj)
      rw [show (j + 1) * 2 = (enc x).length + j * 2 by rw [hk]; omega, List.drop_append]
      rw [List.drop_of_length_le (by omega), List.nil_append, Nat.add_sub_cancel_left]
      exact this
theorem R101_flat {w : World} {base : Nat} {ok : Nat → Prop} {v : Value} {xs : List S101} (h : k101.R 101 w base ok v xs) : w.ownsRow base 101 2 v xs.length (xs.flatMap encR) := by
  obtain ⟨_, inner, ho, hr⟩ := h
  rw [← reps_flat (P := _) (enc := encR) (fun _ => rfl) (fun x cs hm => k101_openM hm) hr]
  exact ho
theorem R101_of {w : World} {base : Nat} {v : Value} {xs : List S101} (h : w.ownsRow base 101 2 v xs.length (xs.flatMap encR)) : k101.R 101 w base (fun _ => True) v xs :=
  ⟨fun _ _ => trivial, _, h, flat_reps (fun _ => rfl) (fun x => k101_mkM _ _ _ x) xs⟩
theorem R55_flat {w : World} {base : Nat} {ok : Nat → Prop} {v : Value} {xs : List S55} (h : k55.R 55 w base ok v xs) : w.ownsRow base 55 2 v xs.length (xs.flatMap encP) := by
  obtain ⟨_, inner, ho, hr⟩ := h
  rw [← reps_flat (P := _) (enc := encP) (fun _ => rfl) (fun x cs hm => k55_openM hm) hr]
  exact ho
theorem R55_of {w : World} {base : Nat} {v : Value} {xs : List S55} (h : w.ownsRow base 55 2 v xs.length (xs.flatMap encP)) : k55.R 55 w base (fun _ => True) v xs :=
  ⟨fun _ _ => trivial, _, h, flat_reps (fun _ => rfl) (fun x => k55_mkM _ _ _ x) xs⟩
theorem cmp3_lt (a b : Int) : decide (cmp3 a b < 0) = decide (a < b) := by
  unfold cmp3
  by_cases h1 : a < b
  · simp [h1]
  · simp [h1]
    try split <;> simp
theorem prod_small {a b : Int} (h1 : 1 ≤ b) (h2 : b ≤ 1000000) (h3 : -1000000000000 ≤ a) (h4 : a ≤ 1000000000000) : wrap64 (a * b) = a * b := by
  have e1 : a * b ≤ 1000000000000 * b := Int.mul_le_mul_of_nonneg_right h4 (by omega)
  have e2 : -1000000000000 * b ≤ a * b := Int.mul_le_mul_of_nonneg_right h3 (by omega)
  unfold wrap64; omega
theorem ltR_eq {x y : S101} (hx : okR x = true) (hy : okR y = true) : ltR x y = decide (x.f0 * y.f1 < y.f0 * x.f1) := by
  simp only [okR, decide_eq_true_eq] at hx hy
  unfold ltR keyR
  rw [prod_small hy.1 hy.2.1 hx.2.2.1 hx.2.2.2.1, prod_small hx.1 hx.2.1 hy.2.2.1 hy.2.2.2.1, cmp3_lt]
theorem frac_trans {a b c d e f : Int} (hb : 1 ≤ b) (hd : 1 ≤ d) (hf : 1 ≤ f) (h1 : a * d < c * b) (h2 : c * f < e * d) : a * f < e * b := by
  have e1 : a * d * f < c * b * f := Int.mul_lt_mul_of_pos_right h1 (by omega)
  have e2 : c * f * b < e * d * b := Int.mul_lt_mul_of_pos_right h2 (by omega)
  have e3 : a * f * d < e * b * d := by grind
  exact Int.lt_of_mul_lt_mul_right e3 (by omega)
theorem frac_trans_le {a b c d e f : Int} (hb : 1 ≤ b) (hd : 1 ≤ d) (hf : 1 ≤ f) (h1 : a * d ≤ c * b) (h2 : c * f ≤ e * d) : a * f ≤ e * b := by
  have e1 : a * d * f ≤ c * b * f := Int.mul_le_mul_of_nonneg_right h1 (by omega)
  have e2 : c * f * b ≤ e * d * b := Int.mul_le_mul_of_nonneg_right h2 (by omega)
  have e3 : a * f * d ≤ e * b * d := by grind
  exact Int.le_of_mul_le_mul_right e3 (by omega)
theorem frac_eq {a b c d : Int} (hb : 1 ≤ b) (hd : 1 ≤ d) (h1 : Int.gcd a b = 1) (h2 : Int.gcd c d = 1) (h : a * d = c * b) : a = c ∧ b = d := by
  have key : ∀ {a b c d : Int}, Int.gcd a b = 1 → a * d = c * b → b ∣ d := fun {a b c d} hg h => by
    have h0 : b ∣ a * d := ⟨c, by rw [h, Int.mul_comm]⟩
    rw [← Int.natAbs_dvd_natAbs, Int.natAbs_mul] at h0
    have h1 : Nat.Coprime b.natAbs a.natAbs := by rw [Nat.Coprime, Nat.gcd_comm]; exact hg
    exact Int.natAbs_dvd_natAbs.1 (h1.dvd_of_dvd_mul_left h0)
  have e1 : b ∣ d := key h1 h
  have e2 : d ∣ b := key h2 h.symm
  have e3 : b = d := Int.le_antisymm (Int.le_of_dvd (by omega) e1) (Int.le_of_dvd (by omega) e2)
  subst e3
  exact ⟨Int.eq_of_mul_eq_mul_right (by omega) h, rfl⟩
theorem okR_total {xs : List S101} (h : xs.all okR = true) : TotalOn ltR xs := by
  have ho := List.all_eq_true.1 h
  have hs : ∀ x ∈ xs, 1 ≤ x.f1 ∧ Int.gcd x.f0 x.f1 = 1 := fun x hx => by
    have := ho x hx
    simp only [okR, decide_eq_true_eq] at this
    exact ⟨this.1, this.2.2.2.2⟩
  refine ⟨fun x hx => ?_, fun x hx y hy z hz h1 h2 => ?_, fun x hx y hy z hz h1 h2 => ?_, fun x hx y hy h1 h2 => ?_⟩
  · rw [ltR_eq (ho x hx) (ho x hx)]; simp
  · rw [ltR_eq (ho x hx) (ho y hy)] at h1
    rw [ltR_eq (ho y hy) (ho z hz)] at h2
    rw [ltR_eq (ho x hx) (ho z hz)]
    exact decide_eq_true (frac_trans (hs x hx).1 (hs y hy).1 (hs z hz).1 (of_decide_eq_true h1) (of_decide_eq_true h2))
  · rw [ltR_eq (ho x hx) (ho y hy)] at h1
    rw [ltR_eq (ho y hy) (ho z hz)] at h2
    rw [ltR_eq (ho x hx) (ho z hz)]
    have e1 := of_decide_eq_false h1
    have e2 := of_decide_eq_false h2
    refine decide_eq_false (Int.not_lt.2 ?_)
    exact frac_trans_le (hs z hz).1 (hs y hy).1 (hs x hx).1 (Int.not_lt.1 e2) (Int.not_lt.1 e1)
  · rw [ltR_eq (ho x hx) (ho y hy)] at h1
    rw [ltR_eq (ho y hy) (ho x hx)] at h2
    have e1 := Int.not_lt.1 (of_decide_eq_false h1)
    have e2 := Int.not_lt.1 (of_decide_eq_false h2)
    obtain ⟨h3, h4⟩ := frac_eq (hs x hx).1 (hs y hy).1 (hs x hx).2 (hs y hy).2 (by omega)
    cases x; cases y; simp_all
def crsT12 : Bool × List (List Nat × List Nat) := (true, [([], []), ([], []), ([1], [1]), ([0, 2], [0, 2]), ([], []), ([4], [4]), ([], []), ([6], [6]), ([5, 7], [5, 7]), ([3, 8], [3, 8]), ([], []), ([10, 2], [10]), ([], []), ([12, 11], [12]), ([11, 13], [11, 13]), ([9, 14], [9, 14]), ([15, 13], [15]), ([], []), ([17, 16, 16, 0, 1, 2, 3, 4, 5, 6, 7, 8, 9, 10, 11, 12, 13, 14, 15, 16, 17], [16, 17])])
def crsT12B : List Nat := [0, 0, 2, 7, 0, 16, 0, 64, 240, 511, 0, 1030, 0, 7174, 15366, 32767, 65535, 0, 262143]
set_option maxRecDepth 100000 in
set_option maxHeartbeats 8000000 in
theorem card_Card_courses.calls (k : Nat) (A0 : Option Addr) (c0 : Nat) (l0 : List S55) (mag : Int) (r1 : List S101) (r2 : Bool) (w : World) (hr0 : Kd.C k55 w A0 l0.length l0) (hc0 : l0.length ≤ c0) (h : card_Card_courses.f k l0 mag = some (r1, r2)) :
    Calls Try.prog 64 #[.slice A0 l0.length c0, .int .i64 mag] w fun e w' => ∃ v0_ : Value, e = .returned (.tuple #[v0_, .bool r2]) ∧ Kd.R k101 101 w' w.heap.size (fun _ => True) v0_ r1 ∧ Below w.heap.size w w' := by
  have hu55 := Try.underlying55
  have hu101 := Try.underlying101
  unfold card_Card_courses.f at h
  split at h
  case isFalse => cases h
  case isTrue hg =>
  obtain ⟨hpos, hlen, hm0, hm1, hpt, hall⟩ := hg
  have HR := Aside0.mk hr0
  have HC := Aside0.mk hc0
  have HBLK : Aside0 (∀ ad', A0 = some ad' → 0 < l0.length → ad'.block < w.heap.size) := ⟨fun ad e hp => by
    obtain ⟨ad', e', hx, _⟩ := at_T55 hr0 0 (by omega) (by omega)
    rw [e] at e'; cases e'
    have := World.block_lt_of_cell? w _ hx
    simpa [add_block] using this⟩
  have H := Aside0.mk h
  have HPT := Aside0.mk hpt
  have HALL := Aside0.mk hall
  clear hr0 hc0 h hpt hall
  refine (callsIn_wide (n := 9)).1 ?_
  refine callsIn_of_wp_marks Try.func64 rfl trivial ?_ rfl
  refine Go.wpIn_mono ?_ NoPanic.le
  simp only [Try.ntmps64, List.size_toArray, List.length_cons, List.length_nil, Nat.reduceAdd, Nat.reduceSub, Array.replicate_succ, Array.replicate_zero, List.push_toArray, List.append_toArray, List.nil_append, List.cons_append]
  gi_wp2_with (refine ⟨trivial, ?_⟩; gi_at_call 87; refine (callsIn_wide.2 (segments_calls _ _ _ _)).mono ?_; rintro e w' ⟨rfl, rfl⟩)
  have b3 := Boxed.new w 3 (.int .i64 mag)
  have b4 := Boxed.new (w.alloc (.cells #[.int .i64 mag] 3)) 111 (.slice none 0 0)
  have b5 := Boxed.new ((w.alloc (.cells #[.int .i64 mag] 3)).alloc (.cells #[.slice none 0 0] 111)) 4 (.bool false)
  have b6 := Boxed.new (((w.alloc (.cells #[.int .i64 mag] 3)).alloc (.cells #[.slice none 0 0] 111)).alloc (.cells #[.bool false] 4)) 111 (.slice none 0 0)
  have bS := Boxed.new ((((w.alloc (.cells #[.int .i64 mag] 3)).alloc (.cells #[.slice none 0 0] 111)).alloc (.cells #[.bool false] 4)).alloc (.cells #[.slice none 0 0] 111)) 23 (.slice A0 l0.length c0)
  simp only [World.size_alloc] at b4 b5 b6 bS
  obtain ⟨W0, hW0⟩ : ∃ W0, ((((w.alloc (.cells #[.int .i64 mag] 3)).alloc (.cells #[.slice none 0 0] 111)).alloc (.cells #[.bool false] 4)).alloc (.cells #[.slice none 0 0] 111)).alloc (.cells #[.slice A0 l0.length c0] 23) = W0 := ⟨_, rfl⟩
  have hszA : w.heap.size + 5 ≤ W0.heap.size := by rw [← hW0]; simp
  have hB0 : Below w.heap.size w W0 := by rw [← hW0]; exact (((((Below.refl _ w).alloc (Nat.le_refl _) _).alloc (by simp) _).alloc (by simp; omega) _).alloc (by simp; omega) _).alloc (by simp; omega) _
  have b3' : Boxed W0 w.heap.size 3 (.int .i64 mag) := by rw [← hW0]; exact (((b3.alloc _).alloc _).alloc _).alloc _
  have b4' : Boxed W0 (w.heap.size + 1) 111 (.slice none 0 0) := by rw [← hW0]; exact ((b4.alloc _).alloc _).alloc _
  have b5' : Boxed W0 (w.heap.size + 2) 4 (.bool false) := by rw [← hW0]; exact (b5.alloc _).alloc _
  have b6' : Boxed W0 (w.heap.size + 3) 111 (.slice none 0 0) := by rw [← hW0]; exact b6.alloc _
  have bS' : Boxed W0 (w.heap.size + 4) 23 (.slice A0 l0.length c0) := by rw [← hW0]; exact bS
  have hS0 := bS'.cell
  rw [hW0]
  clear b3 b4 b5 b6 bS bS' hW0
  refine wpIn_rangeFunc_ownH (α := { x : S55 × S55 // x ∈ segs l0 }) (F := Fence.wide) (w0 := W0) (lb := #[.pointer (some ⟨w.heap.size + 4, 0, none⟩)]) rfl (by decide) (gf := 97) rfl trivial (enters_of Try.func97 (by kernel_rfl) rfl)
    (segments_stops_mem 8 (w.heap.size + 4) w.heap.size A0 c0 l0 (by omega) W0 hB0.size (by omega) hS0 (Kd.C_below HR.out hB0) HC.out HBLK.out) kpS_t (kpS_b hB0.size (by omega)) (Below.refl _ _) (fun _ => rfl)
    (fun pre V => (Boxed V w.heap.size 3 (.int .i64 mag) ∧ Boxed V (w.heap.size + 1) 111 (.slice none 0 0) ∧ Boxed V (w.heap.size + 2) 4 (.bool false) ∧ ∃ v, Boxed V (w.heap.size + 3) 111 v ∧ Kd.R k101 101 V W0.heap.size (fun _ => True) v (solsAll k mag (pre.map (·.1)))) ∧ NoFlat mag pre ∧ Below w.heap.size w V ∧ W0.heap.size ≤ V.heap.size)
    (fun c pre V => c = .ret ∧ SomeFlat mag pre ∧ Boxed V (w.heap.size + 1) 111 (.slice none 0 0) ∧ Boxed V (w.heap.size + 2) 4 (.bool false) ∧ Below w.heap.size w V)
    ?hI ?hIx ⟨⟨b3', b4', b5', _, b6', Kd.R_nil _ _ _ _ _⟩, fun _ h => by simp at h, hB0, Nat.le_refl _⟩
    (fun x a' V => ∃ Bx, W0.heap.size ≤ Bx ∧ (Box2 V Bx 55 (.int .i64 x.1.1.f0) (.int .i64 x.1.1.f1) ∧ Box2 V (Bx + 1) 55 (.int .i64 x.1.2.f0) (.int .i64 x.1.2.f1)) ∧
      a' = { tmps := #[.slice A0 l0.length c0, .int .i64 mag, undef, .pointer (some ⟨w.heap.size, 0, none⟩), .pointer (some ⟨w.heap.size + 1, 0, none⟩), .pointer (some ⟨w.heap.size + 2, 0, none⟩), .pointer (some ⟨w.heap.size + 3, 0, none⟩), .pointer (some ⟨Bx, 0, none⟩), .pointer (some ⟨Bx + 1, 0, none⟩), undef, undef, undef, undef, .slice A0 l0.length c0, .func (.func 97) #[] #[.pointer (some ⟨w.heap.size + 4, 0, none⟩)], .agg #[.int .i64 x.1.1.f0, .int .i64 x.1.1.f1], .agg #[.int .i64 x.1.2.f0, .int .i64 x.1.2.f1], undef, undef, undef, undef, undef, undef, undef, undef, undef, undef, undef, undef, undef, undef, undef, undef, undef, undef, undef, undef, undef, undef, undef, undef, undef, undef, undef, undef, undef, undef, undef, undef, undef, undef, undef, undef, undef, undef, undef, undef, undef, undef, undef, undef, undef, undef, undef, undef, undef, undef, undef, undef, undef, undef, undef, undef, undef, undef, undef, undef], defers := [] })
    (fun x a' s X Y row ⟨Bx, h1, ⟨hb0, hb1⟩, ha⟩ hg hr => ⟨Bx, h1, ⟨box2_own Bx 55 (fun _ : Unit => .int .i64 x.1.1.f0) (fun _ => .int .i64 x.1.1.f1) () X Y row hb0 hg (fun r e => (hr r e).2), box2_own (Bx + 1) 55 (fun _ : Unit => .int .i64 x.1.2.f0) (fun _ => .int .i64 x.1.2.f1) () X Y row hb1 hg (fun r e => (hr r e).2)⟩, ha⟩) ?assign ?body ?done ?stop
  case hI =>
    rintro s X Y row ⟨⟨h1, h2, h3, v, h4, h5⟩, h6, h7, h8⟩ hg hr
    have hr2 := fun r e => (hr r e).2
    refine ⟨⟨boxed_own _ 3 (fun _ : Unit => .int .i64 mag) () X Y row h1 hg hr2, boxed_own _ 111 (fun _ : Unit => .slice none 0 0) () X Y row h2 hg hr2, boxed_own _ 4 (fun _ : Unit => .bool false) () X Y row h3 hg hr2, v, boxed_own _ 111 (fun _ : Unit => v) () X Y row h4 hg hr2, R_kept h5 hg hr2⟩, h6, ownFrom_below (Nat.le_refl _) hB0.size () X Y row h7 hg hr, Nat.le_trans h8 hg.size⟩
  case hIx =>
    rintro c s X Y row ⟨h0, h1, h2, h3, h4⟩ hg hr
    have hr2 := fun r e => (hr r e).2
    exact ⟨h0, h1, boxed_own _ 111 (fun _ : Unit => .slice none 0 0) () X Y row h2 hg hr2, boxed_own _ 4 (fun _ : Unit => .bool false) () X Y row h3 hg hr2, ownFrom_below (Nat.le_refl _) hB0.size () X Y row h4 hg hr⟩
  case assign =>
    rintro l pre x V K ⟨⟨h1, h2, h3, v, h4, h5⟩, h6, h7, h8⟩ hK
    simp only [encSeg]
    gi_wp2
    have hb2 : Below V.heap.size V ((V.alloc (.cells #[.int .i64 x.1.1.f0, .int .i64 x.1.1.f1] 55)).alloc (.cells #[.int .i64 x.1.2.f0, .int .i64 x.1.2.f1] 55)) := ((Below.refl _ V).alloc (Nat.le_refl _) _).alloc (by simp) _
    refine hK _ _ (keepsFrom_below hb2) ⟨hb2.mono h7.size, hb2.block _ (by omega)⟩ ⟨⟨boxed_below h1 hb2, boxed_below h2 hb2, boxed_below h3 hb2, v, boxed_below h4 hb2, Kd.R_below h5 hb2⟩, h6, h7.trans (hb2.mono h7.size), Nat.le_trans h8 hb2.size⟩ ⟨V.heap.size, h8, ⟨(Box2.new _ _ _ _).alloc _, ?_⟩, rfl⟩
    have := Box2.new (V.alloc (.cells #[.int .i64 x.1.1.f0, .int .i64 x.1.1.f1] 55)) 55 (.int .i64 x.1.2.f0) (.int .i64 x.1.2.f1)
    rwa [World.size_alloc] at this
  case body =>
    rintro l pre x a' V hl ⟨rec_, hrec⟩ ⟨⟨h1, h2, h3, v, h4, h5⟩, h6, h7, h8⟩ ⟨Bx, hBx, ⟨bx0, bx1⟩, rfl⟩ hlt
    have hx0 : V.drew.cell? ⟨Bx, 0, none⟩ = some (.int .i64 x.1.1.f0) := bx0.cell0
    have hx1 : V.drew.cell? ⟨Bx, 1, none⟩ = some (.int .i64 x.1.1.f1) := bx0.cell1
    have hx2 : V.drew.cell? ⟨Bx + 1, 0, none⟩ = some (.int .i64 x.1.2.f0) := bx1.cell0
    have hx3 : V.drew.cell? ⟨Bx + 1, 1, none⟩ = some (.int .i64 x.1.2.f1) := bx1.cell1
    obtain ⟨hxa, hxb, hxc, hxd, hxe, hxf, hxg, hxh⟩ := seg_bounds HPT.out x.2
    have hca0 := course_f x.1.1.f0 x.1.1.f1 hxa (by omega) hxc hxd
    have hcb0 := course_f x.1.2.f0 x.1.2.f1 hxe hxf hxg hxh
    obtain ⟨ca, hcaD⟩ : ∃ ca, ca = x.1.1.f0 + x.1.1.f1 := ⟨_, rfl⟩
    obtain ⟨cb, hcbD⟩ : ∃ cb, cb = x.1.2.f0 + x.1.2.f1 := ⟨_, rfl⟩
    have hca : card_Point_course.f x.1.1.f0 x.1.1.f1 = some ca := by rw [hcaD]; exact hca0
    have hcb : card_Point_course.f x.1.2.f0 x.1.2.f1 = some cb := by rw [hcbD]; exact hcb0
    have hca1 : -900 ≤ ca := by omega
    have hca2 : ca < 4500 := by omega
    have hcb1 : -900 ≤ cb := by omega
    have hcb2 : cb < 8100 := by omega
    have HCA := Aside0.mk hcaD
    have HCB := Aside0.mk hcbD
    clear hcaD hcbD hca0 hcb0
    refine wpIn_block ?_
    refine wpIn_seq_k fun K5 h5_ => ?_
    have H5 := Aside0.mk h5_
    clear h5_
    refine startIn_ (fun ⟨_, _, h⟩ => h) (by rfl) (n := 12) (S := fun w' => w'.cell? ⟨Bx, 0, none⟩ = some (.int .i64 x.1.1.f0) ∧ w'.cell? ⟨Bx, 1, none⟩ = some (.int .i64 x.1.1.f1) ∧ w'.cell? ⟨Bx + 1, 0, none⟩ = some (.int .i64 x.1.2.f0) ∧ w'.cell? ⟨Bx + 1, 1, none⟩ = some (.int .i64 x.1.2.f1)) (ds := []) #[false, false, false, false, false, false, false, false, false, false, false, false] (by kernel_rfl) rfl rfl ⟨hx0, hx1, hx2, hx3⟩ (fun hHeld => ?_)
    refine take_ (i := 0) (N := some 17) (v := ?_) (a' := ?_) #[true, false, false, false, false, false, false, false, false, false, false, false] rfl rfl (by kernel_rfl) (fun _ _ _ h => h) (Or.inl ⟨by rfl, ?_⟩) hHeld ?_ ?_
    rotate_left
    · rintro w' ⟨s0, s1, s2, s3⟩
      go_simp
      with_reducible rfl
    rotate_left
    · simp only [Act.put, List.setIfInBounds_toArray, List.set_cons_zero, List.set_cons_succ, i64_w, i32_w]
      rfl
    refine take_ (i := 2) (N := some 19) (v := ?_) (a' := ?_) #[true, false, true, false, false, false, false, false, false, false, false, false] rfl rfl (by kernel_rfl) (fun _ _ _ h => h) (Or.inl ⟨by rfl, ?_⟩) hHeld ?_ ?_
    rotate_left
    · rintro w' ⟨s0, s1, s2, s3⟩
      go_simp
      with_reducible rfl
    rotate_left
    · simp only [Act.put, List.setIfInBounds_toArray, List.set_cons_zero, List.set_cons_succ, i64_w, i32_w]
      rfl
    refine take_ (i := 5) (N := some 22) (v := ?_) (a' := ?_) #[true, false, true, false, false, true, false, false, false, false, false, false] rfl rfl (by kernel_rfl) (fun _ _ _ h => h) (Or.inl ⟨by rfl, ?_⟩) hHeld ?_ ?_
    rotate_left
    · rintro w' ⟨s0, s1, s2, s3⟩
      go_simp
      with_reducible rfl
    rotate_left
    · simp only [Act.put, List.setIfInBounds_toArray, List.set_cons_zero, List.set_cons_succ, i64_w, i32_w]
      rfl
    refine take_ (i := 7) (N := some 24) (v := ?_) (a' := ?_) #[true, false, true, false, false, true, false, true, false, false, false, false] rfl rfl (by kernel_rfl) (fun _ _ _ h => h) (Or.inl ⟨by rfl, ?_⟩) hHeld ?_ ?_
    rotate_left
    · rintro w' ⟨s0, s1, s2, s3⟩
      go_simp
      with_reducible rfl
    rotate_left
    · simp only [Act.put, List.setIfInBounds_toArray, List.set_cons_zero, List.set_cons_succ, i64_w, i32_w]
      rfl
    refine one_ (i := 1) (N := some 18) #[true, true, true, false, false, true, false, true, false, false, false, false] rfl rfl (by kernel_rfl) (by decide) (fun K hK => ?_)
    refine goes_ Try.func71 (by kernel_rfl) rfl #[.agg #[.int .i64 x.1.1.f0, .int .i64 x.1.1.f1]] (by rfl) rfl rfl (by simp only [List.map_toArray, List.map_cons, List.map_nil]; rfl) ?_
    with_reducible refine (card_Point_course.calls _ _ ca _ hca).mono ?_
    rintro e v1 ⟨rfl, hb1⟩
    refine ⟨_, rfl, ?_⟩
    refine hK.out _ _ ⟨(hb1.cell (World.block_lt_of_cell? _ _ hHeld.1)).trans hHeld.1, (hb1.cell (World.block_lt_of_cell? _ _ hHeld.2.1)).trans hHeld.2.1, (hb1.cell (World.block_lt_of_cell? _ _ hHeld.2.2.1)).trans hHeld.2.2.1, (hb1.cell (World.block_lt_of_cell? _ _ hHeld.2.2.2)).trans hHeld.2.2.2⟩ (fun hHeld => ?_)
    clear hK K
    refine norm_ (a' := ?_) ?_ ?_
    rotate_left
    · show Act.put _ (some 18) _ = _
      simp only [Act.put, List.setIfInBounds_toArray, List.set_cons_zero, List.set_cons_succ, i64_w, i32_w]
      rfl
    refine one_ (i := 3) (N := some 20) #[true, true, true, true, false, true, false, true, false, false, false, false] rfl rfl (by kernel_rfl) (by decide) (fun K hK => ?_)
    refine goes_ Try.func71 (by kernel_rfl) rfl #[.agg #[.int .i64 x.1.2.f0, .int .i64 x.1.2.f1]] (by rfl) rfl rfl (by simp only [List.map_toArray, List.map_cons, List.map_nil]; rfl) ?_
    with_reducible refine (card_Point_course.calls _ _ cb _ hcb).mono ?_
    rintro e v2 ⟨rfl, hb2⟩
    refine ⟨_, rfl, ?_⟩
    refine hK.out _ _ ⟨(hb2.cell (World.block_lt_of_cell? _ _ hHeld.1)).trans hHeld.1, (hb2.cell (World.block_lt_of_cell? _ _ hHeld.2.1)).trans hHeld.2.1, (hb2.cell (World.block_lt_of_cell? _ _ hHeld.2.2.1)).trans hHeld.2.2.1, (hb2.cell (World.block_lt_of_cell? _ _ hHeld.2.2.2)).trans hHeld.2.2.2⟩ (fun hHeld => ?_)
    clear hK K
    refine norm_ (a' := ?_) ?_ ?_
    rotate_left
    · show Act.put _ (some 20) _ = _
      simp only [Act.put, List.setIfInBounds_toArray, List.set_cons_zero, List.set_cons_succ, i64_w, i32_w]
      rfl
    refine pz (i := 4) (N := some 21) (zA 12 191) rfl rfl (by kernel_rfl) ?_
    refine one_ (i := 6) (N := some 23) #[true, true, true, true, true, true, true, true, false, false, false, false] rfl rfl (by kernel_rfl) (by decide) (fun K hK => ?_)
    refine goes_ Try.func71 (by kernel_rfl) rfl #[.agg #[.int .i64 x.1.1.f0, .int .i64 x.1.1.f1]] (by rfl) rfl rfl (by simp only [List.map_toArray, List.map_cons, List.map_nil]; rfl) ?_
    with_reducible refine (card_Point_course.calls _ _ ca _ hca).mono ?_
    rintro e v3 ⟨rfl, hb3⟩
    refine ⟨_, rfl, ?_⟩
    refine hK.out _ _ ⟨(hb3.cell (World.block_lt_of_cell? _ _ hHeld.1)).trans hHeld.1, (hb3.cell (World.block_lt_of_cell? _ _ hHeld.2.1)).trans hHeld.2.1, (hb3.cell (World.block_lt_of_cell? _ _ hHeld.2.2.1)).trans hHeld.2.2.1, (hb3.cell (World.block_lt_of_cell? _ _ hHeld.2.2.2)).trans hHeld.2.2.2⟩ (fun hHeld => ?_)
    clear hK K
    refine norm_ (a' := ?_) ?_ ?_
    rotate_left
    · show Act.put _ (some 23) _ = _
      simp only [Act.put, List.setIfInBounds_toArray, List.set_cons_zero, List.set_cons_succ, i64_w, i32_w]
      rfl
    refine one_ (i := 8) (N := some 25) #[true, true, true, true, true, true, true, true, true, false, false, false] rfl rfl (by kernel_rfl) (by decide) (fun K hK => ?_)
    refine goes_ Try.func71 (by kernel_rfl) rfl #[.agg #[.int .i64 x.1.2.f0, .int .i64 x.1.2.f1]] (by rfl) rfl rfl (by simp only [List.map_toArray, List.map_cons, List.map_nil]; rfl) ?_
    with_reducible refine (card_Point_course.calls _ _ cb _ hcb).mono ?_
    rintro e v4 ⟨rfl, hb4⟩
    refine ⟨_, rfl, ?_⟩
    refine hK.out _ _ ⟨(hb4.cell (World.block_lt_of_cell? _ _ hHeld.1)).trans hHeld.1, (hb4.cell (World.block_lt_of_cell? _ _ hHeld.2.1)).trans hHeld.2.1, (hb4.cell (World.block_lt_of_cell? _ _ hHeld.2.2.1)).trans hHeld.2.2.1, (hb4.cell (World.block_lt_of_cell? _ _ hHeld.2.2.2)).trans hHeld.2.2.2⟩ (fun hHeld => ?_)
    clear hK K
    refine norm_ (a' := ?_) ?_ ?_
    rotate_left
    · show Act.put _ (some 25) _ = _
      simp only [Act.put, List.setIfInBounds_toArray, List.set_cons_zero, List.set_cons_succ, i64_w, i32_w]
      rfl
    refine pz (i := 9) (N := some 26) (zA 12 1023) rfl rfl (by kernel_rfl) ?_
    refine pz (i := 10) (N := some 9) (zA 12 2047) rfl rfl (by kernel_rfl) ?_
    refine pz (i := 11) (N := some 10) (zA 12 4095) rfl rfl (by kernel_rfl) ?_
    refine done_ (by kernel_rfl) ?_
    refine H5.out _ _ ?_
    clear H5 K5 hHeld hx0 hx1 hx2 hx3
    have hbV4 : Below V.heap.size V v4 := ((((Below.refl _ V).drew.trans hb1).trans (hb2.mono hb1.size)).trans (hb3.mono (Nat.le_trans hb1.size hb2.size))).trans (hb4.mono (Nat.le_trans (Nat.le_trans hb1.size hb2.size) hb3.size))
    have hv1 := boxed_below h1 hbV4
    have hcm := hv1.cell
    refine wpIn_seq_k fun K6 h6_ => ?_
    have H6 := Aside0.mk h6_
    clear h6_
    have hloD : (if cb < ca then cb else ca) = segLo x.1 := by unfold segLo mn; rw [← HCA.out, ← HCB.out]
    have hhiD : (if ca < cb then cb else ca) = segHi x.1 := by unfold segHi mx; rw [← HCA.out, ← HCB.out]
    have hlo1 : -900 ≤ segLo x.1 := by rw [← hloD]; split <;> omega
    have hlo2 : segLo x.1 < 8100 := by rw [← hloD]; split <;> omega
    have hhi1 : -900 ≤ segHi x.1 := by rw [← hhiD]; split <;> omega
    have hhi2 : segHi x.1 < 8100 := by rw [← hhiD]; split <;> omega
    rw [hloD, hhiD]
    have hm0D := m0_eq hlo1 hlo2 hm0 hm1
    have HN : Aside0 (∀ i : Nat, solM mag x.1 i ≤ segHi x.1 ↔ i < solN mag x.1) := ⟨fun i => by unfold solN solM; omega⟩
    have HM : Aside0 (∀ i : Nat, solM mag x.1 i = segLo x.1 + (mag - segLo x.1) % 3600 + 3600 * i) := ⟨fun i => rfl⟩
    have HFL : Aside0 (flatHit mag x.1 = decide (segLo x.1 = segHi x.1 ∧ 0 < solN mag x.1)) := ⟨rfl⟩
    obtain ⟨lo, hlo⟩ : ∃ lo, lo = segLo x.1 := ⟨_, rfl⟩
    obtain ⟨hi, hhi⟩ : ∃ hi, hi = segHi x.1 := ⟨_, rfl⟩
    rw [← hlo] at hlo1 hlo2 hm0D HM HFL
    rw [← hhi] at hhi1 hhi2 HN HFL
    rw [← hlo, ← hhi]
    have hlh : lo ≤ hi := by rw [hlo, hhi, ← hloD, ← hhiD]; split <;> split <;> omega
    clear hloD hhiD hlo hhi
    gi_wp2
    rw [hm0D]
    clear hm0D
    refine H6.out _ _ ?_
    clear H6 K6
    obtain ⟨M0, hM0⟩ : ∃ M0, M0 = lo + (mag - lo) % 3600 := ⟨_, rfl⟩
    have hM1 : lo ≤ M0 := by omega
    have hM2 : M0 < lo + 3600 := by omega
    rw [← hM0] at HM ⊢
    clear hM0
    have hle4 : V.heap.size ≤ v4.heap.size := hbV4.size
    refine wpIn_block ?_
    gi_loopw [11] (fun mv wr => ∃ (i : Nat) (ys : List S101) (u : Value), mv = .int .i64 (M0 + 3600 * i) ∧ solsTo k mag x.1 i = some ys ∧ i ≤ solN mag x.1 ∧ (0 < i → ¬ lo = hi) ∧
        Boxed wr w.heap.size 3 (.int .i64 mag) ∧ Boxed wr (w.heap.size + 1) 111 (.slice none 0 0) ∧ Boxed wr (w.heap.size + 2) 4 (.bool false) ∧ Boxed wr (w.heap.size + 3) 111 u ∧ Kd.R k101 101 wr W0.heap.size (fun _ => True) u (solsAll k mag (pre.map (·.1)) ++ ys) ∧
        Box2 wr Bx 55 (.int .i64 x.1.1.f0) (.int .i64 x.1.1.f1) ∧ Box2 wr (Bx + 1) 55 (.int .i64 x.1.2.f0) (.int .i64 x.1.2.f1) ∧ Below w.heap.size w wr ∧ KeepsFrom W0.heap.size V wr ∧ KpS w.heap.size (w.heap.size + 4) V wr ∧ W0.heap.size ≤ wr.heap.size)
      (fun mv wr => (hi + 1 - intOf mv).toNat)
    case atStart => exact ⟨0, [], v, by simp, rfl, Nat.zero_le _, fun h => absurd h (by omega), hv1, boxed_below h2 hbV4, boxed_below h3 hbV4, boxed_below h4 hbV4, by rw [List.append_nil]; exact Kd.R_below h5 hbV4, bx0.below hbV4, bx1.below hbV4, h7.trans (hbV4.mono h7.size), keepsFrom_below hbV4, ⟨hbV4.mono h7.size, hbV4.block _ (by omega)⟩, Nat.le_trans h8 hle4⟩
    case round =>
      obtain ⟨i, ys, u, rfl, hys, hiN, hnf, g1, g2, g3, g4, g5, g6, g7, g8, g9, g10, g11⟩ := hrel
      have hNi := HN.out i
      rw [HM.out i] at hNi
      obtain ⟨m, hm⟩ : ∃ m, m = M0 + 3600 * (i : Int) := ⟨_, rfl⟩
      rw [← hm] at hNi ⊢
      have hlom : lo ≤ m := by omega
      have HMI := Aside0.mk hm
      have HNI := Aside0.mk hNi
      have HYS := Aside0.mk hys
      have HNF := Aside0.mk hnf
      clear hm hNi hys hnf
      by_cases hmi : m ≤ hi
      · by_cases hflat : hi ≤ lo
        · have hc4 := g2.cell
          have hf4 := g2.frozen
          have hc5 := g3.cell
          have hf5 := g3.frozen
          gi_wp2
          have hfl : flatHit mag x.1 = true := by
            rw [HFL.out]
            have := HNI.out.1 hmi
            exact decide_eq_true ⟨by omega, by omega⟩
          have hks : KeepsOthers wr ((wr.setCell ⟨w.heap.size + 1, 0, none⟩ (.slice none 0 0)).setCell ⟨w.heap.size + 2, 0, none⟩ (.bool false)) := (KeepsOthers.setCell _ _ _).trans (KeepsOthers.setCell _ _ _)
          refine ⟨g9.trans (hks.from _), rfl, ⟨x, by simp, hfl⟩, ?_, ?_, ?_⟩
          · exact ((g2.set (.slice none 0 0)).kept (grownBy_setCell' _ _ _) (by simp))
          · exact (g3.kept (grownBy_setCell' _ (w.heap.size + 1) _) (by simp)).set (.bool false)
          · exact (g8.setCell (p := ⟨w.heap.size + 1, 0, none⟩) (by simp) _).setCell (p := ⟨w.heap.size + 2, 0, none⟩) (by simp) _
        · have hlt2 : lo < hi := by omega
          have hne2 : ((lo : Int) == hi) = false := by simp; omega
          clear hflat
          have hbxc := g7.cell0
          have hbxd := g7.cell1
          by_cases hb : m = cb
          · have hcm1 : m ≤ cb := by omega
            have hcm2 : cb ≤ m := by omega
            have HB_ := Aside0.mk hb
            clear hb
            gi_wp2_with (refine ⟨trivial, ?_⟩; gi_at_call 71; refine (CallsIn.inRound l (callsIn_wide.2 (card_Point_course.calls _ _ cb _ hcb))).mono ?_; rintro e wq ⟨rfl, hbq⟩)
            go_roundw
            case rel =>
              have hNi := HNI.out.1 hmi
              refine ⟨i + 1, ys, u, ?_, ?_, by omega, fun _ => by omega, boxed_below g1 hbq, boxed_below g2 hbq, boxed_below g3 hbq, boxed_below g4 hbq, Kd.R_below g5 hbq, g6.below hbq, g7.below hbq, g8.trans (hbq.mono g8.size), g9.trans (keepsFrom_below hbq), g10.trans ⟨hbq.mono g8.size, hbq.block _ (by omega)⟩, Nat.le_trans g11 hbq.size⟩
              · congr 1
                have := HMI.out
                omega
              · unfold solsTo
                rw [HYS.out, Option.bind_some, HM.out i, ← HMI.out, if_pos (by rw [HB_.out, HCB.out])]
            case measure => simp [intOf]; omega
          · have hbf : ((m : Int) == cb) = false := by simpa using hb
            gi_wp2_with (refine ⟨trivial, ?_⟩; gi_at_call 71; refine (CallsIn.inRound l (callsIn_wide.2 (card_Point_course.calls _ _ cb _ hcb))).mono ?_; rintro e wq ⟨rfl, hbq⟩)
            have hNi := HNI.out.1 hmi
            have hfl : flatHit mag x.1 = false := by rw [HFL.out]; exact decide_eq_false (fun h => by omega)
            have hsome : (segSols k mag x.1).isSome = true := by
              have := List.all_eq_true.1 HALL.out x.1 x.2
              rw [hfl] at this
              simpa using this
            obtain ⟨l', hl'⟩ := solsTo_le (j := i + 1) (by omega) (show (solsTo k mag x.1 (solN mag x.1)).isSome = true from hsome)
            have hl0 := hl'
            unfold solsTo at hl'
            rw [HYS.out, Option.bind_some, HM.out i, ← HMI.out, if_neg (by rw [← HCB.out]; exact hb)] at hl'
            obtain ⟨⟨q1, q2⟩, hcv, hl'⟩ := Option.bind_eq_some_iff.mp hl'
            unfold courseAt at hcv
            rw [← HCA.out, ← HCB.out] at hcv
            obtain ⟨⟨t1, t2⟩, ht, hcv⟩ := Option.bind_eq_some_iff.mp hcv
            obtain ⟨⟨p1, p2⟩, hp, hq⟩ := Option.bind_eq_some_iff.mp hcv
            have HL0 := Aside0.mk hl0
            have HLE := Aside0.mk (Option.some.inj hl')
            clear hl' hl0 hcv hfl hsome hb hbf hNi
            have k6 := g6.below hbq
            have k7 := g7.below hbq
            have hx0 := k6.cell0
            have hx1 := k6.cell1
            have hx2 := k7.cell0
            have hx3 := k7.cell1
            have hwa : wrap64 (m - ca) = m - ca := by unfold wrap64; omega
            have hwb : wrap64 (x.1.2.f0 - x.1.1.f0) = x.1.2.f0 - x.1.1.f0 := by unfold wrap64; omega
            have hwc : wrap64 (cb - ca) = cb - ca := by unfold wrap64; omega
            rw [← hwc, ← hwa, ← hwb] at ht
            clear hwa hwb hwc
            have HB : Aside0 (Below wq.heap.size wq wq.drew) := ⟨(Below.refl _ wq).drew⟩
            refine startIn_ (fun ⟨_, _, h⟩ => h) (by rfl) (n := 19) (S := fun w' => True) (ds := []) #[false, false, false, false, false, false, false, false, false, false, false, false, false, false, false, false, false, false, false] (by kernel_rfl) rfl rfl trivial (fun hHeld => ?_)
            refine pz (i := 0) (N := some 47) (zA 19 1) rfl rfl (by kernel_rfl) ?_
            refine pz (i := 4) (N := some 51) (zA 19 17) rfl rfl (by kernel_rfl) ?_
            refine pz (i := 6) (N := some 53) (zA 19 81) rfl rfl (by kernel_rfl) ?_
            refine inv_at (T := crsT12) (B := crsT12B) [1, 2, 3, 5, 7, 8, 9, 10, 11, 12, 13, 14, 15, 16, 17, 18] (fun a0_ b a w' => ∃ (b17 : Nat) (m17_ : Value), a = putSel a0_ b [(1, 48, .agg #[.int .i64 x.1.1.f0, .int .i64 x.1.1.f1]), (2, 49, .int .i64 ca), (3, 50, .int .i64 (wrap64 (m - ca))), (5, 52, .int .i64 x.1.2.f0), (7, 54, .int .i64 x.1.1.f0), (8, 55, .int .i64 (wrap64 (x.1.2.f0 - x.1.1.f0))), (9, 56, .int .i64 (wrap64 (wrap64 (m - ca) * wrap64 (x.1.2.f0 - x.1.1.f0)))), (10, 57, .agg #[.int .i64 x.1.2.f0, .int .i64 x.1.2.f1]), (11, 58, .int .i64 cb), (12, 59, .agg #[.int .i64 x.1.1.f0, .int .i64 x.1.1.f1]), (13, 60, .int .i64 ca), (14, 61, .int .i64 (wrap64 (cb - ca))), (15, 62, .agg #[.int .i64 (wrap64 (wrap64 (m - ca) * wrap64 (x.1.2.f0 - x.1.1.f0))), .int .i64 (wrap64 (cb - ca))]), (16, 63, .agg #[.int .i64 t1, .int .i64 t2]), (17, 12, m17_)] ∧ (Below wq.heap.size wq w') ∧ (b 17 = true → b 18 = false → Box2 w' b17 101 (.int .i64 0) (.int .i64 0)) ∧ (b 18 = true → Box2 w' b17 101 (.int .i64 t1) (.int .i64 t2)) ∧ (b 17 = true → wq.heap.size ≤ b17) ∧ (b 17 = true → (m17_ : Value) = .pointer (some ⟨b17, 0, none⟩))) (by kernel_rfl) (by kernel_rfl) (by kernel_rfl) (by kernel_rfl) ?_ ?_ ?_
            · exact ⟨0, .bool false, by simp only [putSel, Bool.false_eq_true, if_false], HB.out, fun h_ => absurd h_ (by decide), fun h_ => absurd h_ (by decide), fun h_ => absurd h_ (by decide), fun h_ => absurd h_ (by decide)⟩
            · skip
              clear HB
              refine steps_cons ?_ ?_
              · rintro b a w' ⟨b17, m17_, ha, Q_HB, Q_H17, Q_H18, Q_H19, Q_X17_⟩ hb_ hon hoff
                refine ⟨_, rfl, fun K hK => ?_⟩
                have e7 : a.tmps[7]? = some (.pointer (some ⟨Bx, 0, none⟩)) := by rw [ha]; exact (putSel_off rfl).trans rfl
                replace ha := Aside0.mk ha
                have HB := Aside0.mk Q_HB
                have hc0 := (HB.out.cell (World.block_lt_of_cell? _ _ hx0)).trans hx0
                have hc1 := (HB.out.cell (World.block_lt_of_cell? _ _ hx1)).trans hx1
                refine value_ (w1 := w') (v := .agg #[.int .i64 x.1.1.f0, .int .i64 x.1.1.f1]) (by rfl) rfl ?_ ?_
                · go_simp
                  (try simp only [i64_w])
                  try rfl
                refine hK.out _ _ ⟨b17, m17_, (by rw [ha.out]; exact putSel_upk 0 hb_ rfl rfl rfl), Q_HB, Q_H17, fun h0_ => absurd ((hoff 18 (by kernel_rfl)).symm.trans h0_) (by decide), Q_H19, Q_X17_⟩
              refine steps_cons ?_ ?_
              · rintro b a w' ⟨b17, m17_, ha, Q_HB, Q_H17, Q_H18, Q_H19, Q_X17_⟩ hb_ hon hoff
                refine ⟨_, rfl, fun K hK => ?_⟩
                have e48 : a.tmps[48]? = some (.agg #[.int .i64 x.1.1.f0, .int .i64 x.1.1.f1]) := by rw [ha]; exact putSel_on (e := (1, 48, .agg #[.int .i64 x.1.1.f0, .int .i64 x.1.1.f1])) 0 rfl rfl (hon 1 (by kernel_rfl)) rfl
                replace ha := Aside0.mk ha
                have HB := Aside0.mk Q_HB
                refine goes_ Try.func71 (by kernel_rfl) rfl #[.agg #[.int .i64 x.1.1.f0, .int .i64 x.1.1.f1]] (by rfl) rfl rfl (by first | (simp only [List.map_toArray, List.map_cons, List.map_nil, Act.eval, Array.getD_eq_getD_getElem?, Option.getD_some, e48]; done) | (simp only [List.map_toArray, List.map_cons, List.map_nil, Act.eval, Array.getD_eq_getD_getElem?, Option.getD_some, e48]; rfl)) ?_
                with_reducible refine (card_Point_course.calls _ _ ca _ hca).mono ?_
                rintro e w4 ⟨rfl, hb4⟩
                refine ⟨_, rfl, ?_⟩
                refine hK.out _ _ ⟨b17, m17_, (by rw [ha.out]; exact putSel_upk 1 hb_ rfl rfl rfl), HB.out.trans (hb4.mono HB.out.size), fun h0_ h1_ => (Q_H17 h0_ h1_).below hb4, fun h0_ => absurd ((hoff 18 (by kernel_rfl)).symm.trans h0_) (by decide), fun h0_ => (Q_H19 h0_), Q_X17_⟩
              refine steps_cons ?_ ?_
              · rintro b a w' ⟨b17, m17_, ha, Q_HB, Q_H17, Q_H18, Q_H19, Q_X17_⟩ hb_ hon hoff
                refine ⟨_, rfl, fun K hK => ?_⟩
                have e47 : a.tmps[47]? = some (.int .i64 m) := by rw [ha]; exact (putSel_off rfl).trans rfl
                have e49 : a.tmps[49]? = some (.int .i64 ca) := by rw [ha]; exact putSel_on (e := (2, 49, .int .i64 ca)) 1 rfl rfl (hon 2 (by kernel_rfl)) rfl
                replace ha := Aside0.mk ha
                have HB := Aside0.mk Q_HB
                refine value_ (w1 := w') (v := .int .i64 (wrap64 (m - ca))) (by rfl) rfl ?_ ?_
                · go_simp
                  (try simp only [i64_w])
                  try rfl
                refine hK.out _ _ ⟨b17, m17_, (by rw [ha.out]; exact putSel_upk 2 hb_ rfl rfl rfl), Q_HB, Q_H17, fun h0_ => absurd ((hoff 18 (by kernel_rfl)).symm.trans h0_) (by decide), Q_H19, Q_X17_⟩
              refine steps_cons ?_ ?_
              · rintro b a w' ⟨b17, m17_, ha, Q_HB, Q_H17, Q_H18, Q_H19, Q_X17_⟩ hb_ hon hoff
                refine ⟨_, rfl, fun K hK => ?_⟩
                have e51 : a.tmps[51]? = some (.pointer (some ⟨Bx + 1, 0, none⟩)) := by rw [ha]; exact (putSel_off rfl).trans rfl
                replace ha := Aside0.mk ha
                have HB := Aside0.mk Q_HB
                have hc0 := (HB.out.cell (World.block_lt_of_cell? _ _ hx2)).trans hx2
                refine value_ (w1 := w') (v := .int .i64 x.1.2.f0) (by rfl) rfl ?_ ?_
                · go_simp
                  (try simp only [i64_w])
                  try rfl
                refine hK.out _ _ ⟨b17, m17_, (by rw [ha.out]; exact putSel_upk 3 hb_ rfl rfl rfl), Q_HB, Q_H17, fun h0_ => absurd ((hoff 18 (by kernel_rfl)).symm.trans h0_) (by decide), Q_H19, Q_X17_⟩
              refine steps_cons ?_ ?_
              · rintro b a w' ⟨b17, m17_, ha, Q_HB, Q_H17, Q_H18, Q_H19, Q_X17_⟩ hb_ hon hoff
                refine ⟨_, rfl, fun K hK => ?_⟩
                have e53 : a.tmps[53]? = some (.pointer (some ⟨Bx, 0, none⟩)) := by rw [ha]; exact (putSel_off rfl).trans rfl
                replace ha := Aside0.mk ha
                have HB := Aside0.mk Q_HB
                have hc0 := (HB.out.cell (World.block_lt_of_cell? _ _ hx0)).trans hx0
                refine value_ (w1 := w') (v := .int .i64 x.1.1.f0) (by rfl) rfl ?_ ?_
                · go_simp
                  (try simp only [i64_w])
                  try rfl
                refine hK.out _ _ ⟨b17, m17_, (by rw [ha.out]; exact putSel_upk 4 hb_ rfl rfl rfl), Q_HB, Q_H17, fun h0_ => absurd ((hoff 18 (by kernel_rfl)).symm.trans h0_) (by decide), Q_H19, Q_X17_⟩
              refine steps_cons ?_ ?_
              · rintro b a w' ⟨b17, m17_, ha, Q_HB, Q_H17, Q_H18, Q_H19, Q_X17_⟩ hb_ hon hoff
                refine ⟨_, rfl, fun K hK => ?_⟩
                have e52 : a.tmps[52]? = some (.int .i64 x.1.2.f0) := by rw [ha]; exact putSel_on (e := (5, 52, .int .i64 x.1.2.f0)) 3 rfl rfl (hon 5 (by kernel_rfl)) rfl
                have e54 : a.tmps[54]? = some (.int .i64 x.1.1.f0) := by rw [ha]; exact putSel_on (e := (7, 54, .int .i64 x.1.1.f0)) 4 rfl rfl (hon 7 (by kernel_rfl)) rfl
                replace ha := Aside0.mk ha
                have HB := Aside0.mk Q_HB
                refine value_ (w1 := w') (v := .int .i64 (wrap64 (x.1.2.f0 - x.1.1.f0))) (by rfl) rfl ?_ ?_
                · go_simp
                  (try simp only [i64_w])
                  try rfl
                refine hK.out _ _ ⟨b17, m17_, (by rw [ha.out]; exact putSel_upk 5 hb_ rfl rfl rfl), Q_HB, Q_H17, fun h0_ => absurd ((hoff 18 (by kernel_rfl)).symm.trans h0_) (by decide), Q_H19, Q_X17_⟩
              refine steps_cons ?_ ?_
              · rintro b a w' ⟨b17, m17_, ha, Q_HB, Q_H17, Q_H18, Q_H19, Q_X17_⟩ hb_ hon hoff
                refine ⟨_, rfl, fun K hK => ?_⟩
                have e50 : a.tmps[50]? = some (.int .i64 (wrap64 (m - ca))) := by rw [ha]; exact putSel_on (e := (3, 50, .int .i64 (wrap64 (m - ca)))) 2 rfl rfl (hon 3 (by kernel_rfl)) rfl
                have e55 : a.tmps[55]? = some (.int .i64 (wrap64 (x.1.2.f0 - x.1.1.f0))) := by rw [ha]; exact putSel_on (e := (8, 55, .int .i64 (wrap64 (x.1.2.f0 - x.1.1.f0)))) 5 rfl rfl (hon 8 (by kernel_rfl)) rfl
                replace ha := Aside0.mk ha
                have HB := Aside0.mk Q_HB
                refine value_ (w1 := w') (v := .int .i64 (wrap64 (wrap64 (m - ca) * wrap64 (x.1.2.f0 - x.1.1.f0)))) (by rfl) rfl ?_ ?_
                · go_simp
                  (try simp only [i64_w])
                  try rfl
                refine hK.out _ _ ⟨b17, m17_, (by rw [ha.out]; exact putSel_upk 6 hb_ rfl rfl rfl), Q_HB, Q_H17, fun h0_ => absurd ((hoff 18 (by kernel_rfl)).symm.trans h0_) (by decide), Q_H19, Q_X17_⟩
              refine steps_cons ?_ ?_
              · rintro b a w' ⟨b17, m17_, ha, Q_HB, Q_H17, Q_H18, Q_H19, Q_X17_⟩ hb_ hon hoff
                refine ⟨_, rfl, fun K hK => ?_⟩
                have e8 : a.tmps[8]? = some (.pointer (some ⟨Bx + 1, 0, none⟩)) := by rw [ha]; exact (putSel_off rfl).trans rfl
                replace ha := Aside0.mk ha
                have HB := Aside0.mk Q_HB
                have hc0 := (HB.out.cell (World.block_lt_of_cell? _ _ hx2)).trans hx2
                have hc1 := (HB.out.cell (World.block_lt_of_cell? _ _ hx3)).trans hx3
                refine value_ (w1 := w') (v := .agg #[.int .i64 x.1.2.f0, .int .i64 x.1.2.f1]) (by rfl) rfl ?_ ?_
                · go_simp
                  (try simp only [i64_w])
                  try rfl
                refine hK.out _ _ ⟨b17, m17_, (by rw [ha.out]; exact putSel_upk 7 hb_ rfl rfl rfl), Q_HB, Q_H17, fun h0_ => absurd ((hoff 18 (by kernel_rfl)).symm.trans h0_) (by decide), Q_H19, Q_X17_⟩
              refine steps_cons ?_ ?_
              · rintro b a w' ⟨b17, m17_, ha, Q_HB, Q_H17, Q_H18, Q_H19, Q_X17_⟩ hb_ hon hoff
                refine ⟨_, rfl, fun K hK => ?_⟩
                have e57 : a.tmps[57]? = some (.agg #[.int .i64 x.1.2.f0, .int .i64 x.1.2.f1]) := by rw [ha]; exact putSel_on (e := (10, 57, .agg #[.int .i64 x.1.2.f0, .int .i64 x.1.2.f1])) 7 rfl rfl (hon 10 (by kernel_rfl)) rfl
                replace ha := Aside0.mk ha
                have HB := Aside0.mk Q_HB
                refine goes_ Try.func71 (by kernel_rfl) rfl #[.agg #[.int .i64 x.1.2.f0, .int .i64 x.1.2.f1]] (by rfl) rfl rfl (by first | (simp only [List.map_toArray, List.map_cons, List.map_nil, Act.eval, Array.getD_eq_getD_getElem?, Option.getD_some, e57]; done) | (simp only [List.map_toArray, List.map_cons, List.map_nil, Act.eval, Array.getD_eq_getD_getElem?, Option.getD_some, e57]; rfl)) ?_
                with_reducible refine (card_Point_course.calls _ _ cb _ hcb).mono ?_
                rintro e w4 ⟨rfl, hb4⟩
                refine ⟨_, rfl, ?_⟩
                refine hK.out _ _ ⟨b17, m17_, (by rw [ha.out]; exact putSel_upk 8 hb_ rfl rfl rfl), HB.out.trans (hb4.mono HB.out.size), fun h0_ h1_ => (Q_H17 h0_ h1_).below hb4, fun h0_ => absurd ((hoff 18 (by kernel_rfl)).symm.trans h0_) (by decide), fun h0_ => (Q_H19 h0_), Q_X17_⟩
              refine steps_cons ?_ ?_
              · rintro b a w' ⟨b17, m17_, ha, Q_HB, Q_H17, Q_H18, Q_H19, Q_X17_⟩ hb_ hon hoff
                refine ⟨_, rfl, fun K hK => ?_⟩
                have e7 : a.tmps[7]? = some (.pointer (some ⟨Bx, 0, none⟩)) := by rw [ha]; exact (putSel_off rfl).trans rfl
                replace ha := Aside0.mk ha
                have HB := Aside0.mk Q_HB
                have hc0 := (HB.out.cell (World.block_lt_of_cell? _ _ hx0)).trans hx0
                have hc1 := (HB.out.cell (World.block_lt_of_cell? _ _ hx1)).trans hx1
                refine value_ (w1 := w') (v := .agg #[.int .i64 x.1.1.f0, .int .i64 x.1.1.f1]) (by rfl) rfl ?_ ?_
                · go_simp
                  (try simp only [i64_w])
                  try rfl
                refine hK.out _ _ ⟨b17, m17_, (by rw [ha.out]; exact putSel_upk 9 hb_ rfl rfl rfl), Q_HB, Q_H17, fun h0_ => absurd ((hoff 18 (by kernel_rfl)).symm.trans h0_) (by decide), Q_H19, Q_X17_⟩
              refine steps_cons ?_ ?_
              · rintro b a w' ⟨b17, m17_, ha, Q_HB, Q_H17, Q_H18, Q_H19, Q_X17_⟩ hb_ hon hoff
                refine ⟨_, rfl, fun K hK => ?_⟩
                have e59 : a.tmps[59]? = some (.agg #[.int .i64 x.1.1.f0, .int .i64 x.1.1.f1]) := by rw [ha]; exact putSel_on (e := (12, 59, .agg #[.int .i64 x.1.1.f0, .int .i64 x.1.1.f1])) 9 rfl rfl (hon 12 (by kernel_rfl)) rfl
                replace ha := Aside0.mk ha
                have HB := Aside0.mk Q_HB
                refine goes_ Try.func71 (by kernel_rfl) rfl #[.agg #[.int .i64 x.1.1.f0, .int .i64 x.1.1.f1]] (by rfl) rfl rfl (by first | (simp only [List.map_toArray, List.map_cons, List.map_nil, Act.eval, Array.getD_eq_getD_getElem?, Option.getD_some, e59]; done) | (simp only [List.map_toArray, List.map_cons, List.map_nil, Act.eval, Array.getD_eq_getD_getElem?, Option.getD_some, e59]; rfl)) ?_
                with_reducible refine (card_Point_course.calls _ _ ca _ hca).mono ?_
                rintro e w4 ⟨rfl, hb4⟩
                refine ⟨_, rfl, ?_⟩
                refine hK.out _ _ ⟨b17, m17_, (by rw [ha.out]; exact putSel_upk 10 hb_ rfl rfl rfl), HB.out.trans (hb4.mono HB.out.size), fun h0_ h1_ => (Q_H17 h0_ h1_).below hb4, fun h0_ => absurd ((hoff 18 (by kernel_rfl)).symm.trans h0_) (by decide), fun h0_ => (Q_H19 h0_), Q_X17_⟩
              refine steps_cons ?_ ?_
              · rintro b a w' ⟨b17, m17_, ha, Q_HB, Q_H17, Q_H18, Q_H19, Q_X17_⟩ hb_ hon hoff
                refine ⟨_, rfl, fun K hK => ?_⟩
                have e58 : a.tmps[58]? = some (.int .i64 cb) := by rw [ha]; exact putSel_on (e := (11, 58, .int .i64 cb)) 8 rfl rfl (hon 11 (by kernel_rfl)) rfl
                have e60 : a.tmps[60]? = some (.int .i64 ca) := by rw [ha]; exact putSel_on (e := (13, 60, .int .i64 ca)) 10 rfl rfl (hon 13 (by kernel_rfl)) rfl
                replace ha := Aside0.mk ha
                have HB := Aside0.mk Q_HB
                refine value_ (w1 := w') (v := .int .i64 (wrap64 (cb - ca))) (by rfl) rfl ?_ ?_
                · go_simp
                  (try simp only [i64_w])
                  try rfl
                refine hK.out _ _ ⟨b17, m17_, (by rw [ha.out]; exact putSel_upk 11 hb_ rfl rfl rfl), Q_HB, Q_H17, fun h0_ => absurd ((hoff 18 (by kernel_rfl)).symm.trans h0_) (by decide), Q_H19, Q_X17_⟩
              refine steps_cons ?_ ?_
              · rintro b a w' ⟨b17, m17_, ha, Q_HB, Q_H17, Q_H18, Q_H19, Q_X17_⟩ hb_ hon hoff
                refine ⟨_, rfl, fun K hK => ?_⟩
                have e56 : a.tmps[56]? = some (.int .i64 (wrap64 (wrap64 (m - ca) * wrap64 (x.1.2.f0 - x.1.1.f0)))) := by rw [ha]; exact putSel_on (e := (9, 56, .int .i64 (wrap64 (wrap64 (m - ca) * wrap64 (x.1.2.f0 - x.1.1.f0))))) 6 rfl rfl (hon 9 (by kernel_rfl)) rfl
                have e61 : a.tmps[61]? = some (.int .i64 (wrap64 (cb - ca))) := by rw [ha]; exact putSel_on (e := (14, 61, .int .i64 (wrap64 (cb - ca)))) 11 rfl rfl (hon 14 (by kernel_rfl)) rfl
                replace ha := Aside0.mk ha
                have HB := Aside0.mk Q_HB
                refine value_ (w1 := w') (v := .agg #[.int .i64 (wrap64 (wrap64 (m - ca) * wrap64 (x.1.2.f0 - x.1.1.f0))), .int .i64 (wrap64 (cb - ca))]) (by rfl) rfl ?_ ?_
                · go_simp
                  (try simp only [i64_w])
                  try rfl
                refine hK.out _ _ ⟨b17, m17_, (by rw [ha.out]; exact putSel_upk 12 hb_ rfl rfl rfl), Q_HB, Q_H17, fun h0_ => absurd ((hoff 18 (by kernel_rfl)).symm.trans h0_) (by decide), Q_H19, Q_X17_⟩
              refine steps_cons ?_ ?_
              · rintro b a w' ⟨b17, m17_, ha, Q_HB, Q_H17, Q_H18, Q_H19, Q_X17_⟩ hb_ hon hoff
                refine ⟨_, rfl, fun K hK => ?_⟩
                have e62 : a.tmps[62]? = some (.agg #[.int .i64 (wrap64 (wrap64 (m - ca) * wrap64 (x.1.2.f0 - x.1.1.f0))), .int .i64 (wrap64 (cb - ca))]) := by rw [ha]; exact putSel_on (e := (15, 62, .agg #[.int .i64 (wrap64 (wrap64 (m - ca) * wrap64 (x.1.2.f0 - x.1.1.f0))), .int .i64 (wrap64 (cb - ca))])) 12 rfl rfl (hon 15 (by kernel_rfl)) rfl
                replace ha := Aside0.mk ha
                have HB := Aside0.mk Q_HB
                refine goes_ Try.func88 (by kernel_rfl) rfl #[.agg #[.int .i64 (wrap64 (wrap64 (m - ca) * wrap64 (x.1.2.f0 - x.1.1.f0))), .int .i64 (wrap64 (cb - ca))]] (by rfl) rfl rfl (by first | (simp only [List.map_toArray, List.map_cons, List.map_nil, Act.eval, Array.getD_eq_getD_getElem?, Option.getD_some, e62]; done) | (simp only [List.map_toArray, List.map_cons, List.map_nil, Act.eval, Array.getD_eq_getD_getElem?, Option.getD_some, e62]; rfl)) ?_
                with_reducible refine (card_ratio_plain.calls k _ _ t1 t2 _ ht).mono ?_
                rintro e w4 ⟨rfl, hb4⟩
                refine ⟨_, rfl, ?_⟩
                refine hK.out _ _ ⟨b17, m17_, (by rw [ha.out]; exact putSel_upk 13 hb_ rfl rfl rfl), HB.out.trans (hb4.mono HB.out.size), fun h0_ h1_ => (Q_H17 h0_ h1_).below hb4, fun h0_ => absurd ((hoff 18 (by kernel_rfl)).symm.trans h0_) (by decide), fun h0_ => (Q_H19 h0_), Q_X17_⟩
              refine steps_cons ?_ ?_
              · rintro b a w' ⟨b17, m17_, ha, Q_HB, Q_H17, Q_H18, Q_H19, Q_X17_⟩ hb_ hon hoff
                refine ⟨_, rfl, fun K hK => ?_⟩
                replace ha := Aside0.mk ha
                have HB := Aside0.mk Q_HB
                refine value_ (w1 := ?_) (v := ?_) (by rfl) rfl ?_ ?_
                rotate_left 2
                · go_simp
                  constructor
                  · rfl
                  · rfl
                refine hK.out _ _ ⟨w'.heap.size, (.pointer (some ⟨w'.heap.size, 0, none⟩)), (by rw [ha.out]; exact putSel_upk 14 hb_ rfl rfl rfl), HB.out.alloc HB.out.size _, fun _ _ => Box2.new _ _ _ _, fun h0_ => absurd ((hoff 18 (by kernel_rfl)).symm.trans h0_) (by decide), fun _ => HB.out.size, fun _ => rfl⟩
              refine steps_cons ?_ ?_
              · rintro b a w' ⟨b17, m17_, ha, Q_HB, Q_H17, Q_H18, Q_H19, Q_X17_⟩ hb_ hon hoff
                refine ⟨_, rfl, fun K hK => ?_⟩
                have e12 : a.tmps[12]? = some (m17_) := by rw [ha]; exact putSel_on (e := (17, 12, m17_)) 14 rfl rfl (hon 17 (by kernel_rfl)) rfl
                rw [Q_X17_ (hon 17 (by kernel_rfl))] at e12
                have e63 : a.tmps[63]? = some (.agg #[.int .i64 t1, .int .i64 t2]) := by rw [ha]; exact putSel_on (e := (16, 63, .agg #[.int .i64 t1, .int .i64 t2])) 13 rfl rfl (hon 16 (by kernel_rfl)) rfl
                replace ha := Aside0.mk ha
                have HB := Aside0.mk Q_HB
                have H17 := Aside0.mk (Q_H17 (hon 17 (by kernel_rfl)) hb_)
                have H19 := Aside0.mk (Q_H19 (hon 17 (by kernel_rfl)))
                have hc0 := H17.out.cell0
                have hc1 := H17.out.cell1
                have hf0 := H17.out.frozen0
                have hf1 := H17.out.frozen1
                refine skip_ (w1 := ?_) (by rfl) rfl ?_ ?_
                rotate_left
                · go_simp
                  rfl
                refine hK.out _ _ ⟨b17, m17_, (by rw [ha.out]; exact putSel_none (v := undef) rfl), (HB.out.setCell (p := ⟨b17, 0, none⟩) H19.out _).setCell (p := ⟨b17, 1, none⟩) H19.out _, fun _ h1_ => absurd ((up_self b 18).symm.trans h1_) (by decide), fun _ => H17.out.set2 _ _, fun _ => H19.out, Q_X17_⟩
              exact steps_nil
            · rintro b a w' hall ⟨b17, m17_, ha, Q_HB, Q_H17, Q_H18, Q_H19, Q_X17_⟩
              clear HB
              have hb1_ := hall 1 (by kernel_rfl)
              have hb2_ := hall 2 (by kernel_rfl)
              have hb3_ := hall 3 (by kernel_rfl)
              have hb5_ := hall 5 (by kernel_rfl)
              have hb7_ := hall 7 (by kernel_rfl)
              have hb8_ := hall 8 (by kernel_rfl)
              have hb9_ := hall 9 (by kernel_rfl)
              have hb10_ := hall 10 (by kernel_rfl)
              have hb11_ := hall 11 (by kernel_rfl)
              have hb12_ := hall 12 (by kernel_rfl)
              have hb13_ := hall 13 (by kernel_rfl)
              have hb14_ := hall 14 (by kernel_rfl)
              have hb15_ := hall 15 (by kernel_rfl)
              have hb16_ := hall 16 (by kernel_rfl)
              have hb17_ := hall 17 (by kernel_rfl)
              have hb18_ := hall 18 (by kernel_rfl)
              subst ha
              obtain rfl := Q_X17_ hb17_
              simp only [putSel, hb1_, hb2_, hb3_, hb5_, hb7_, hb8_, hb9_, hb10_, hb11_, hb12_, hb13_, hb14_, hb15_, hb16_, hb17_, hb18_, if_true, Act.put, List.setIfInBounds_toArray, List.set_cons_zero, List.set_cons_succ]
              have HB := Aside0.mk Q_HB
              clear Q_HB
              clear Q_H17
              have H18 := Aside0.mk (Q_H18 hb18_)
              clear Q_H18
              have H19 := Aside0.mk (Q_H19 hb17_)
              clear Q_H19
              clear hall hb1_ hb2_ hb3_ hb5_ hb7_ hb8_ hb9_ hb10_ hb11_ hb12_ hb13_ hb14_ hb15_ hb16_ hb17_ hb18_
              obtain ⟨outl, houtl⟩ : ∃ outl, outl = solsAll k mag (pre.map (·.1)) ++ ys := ⟨_, rfl⟩
              have hNi := HNI.out.1 hmi
              have HL9 : (outl.length + 1) * 16 ≤ 140737488355328 := by
                have e1 := solsAll_length k mag HPT.out (pre.map (·.1)) (fun y hy => by obtain ⟨z, _, rfl⟩ := List.mem_map.1 hy; exact z.2)
                have e2 := solsTo_length HYS.out
                have e3 := solN_le mag HPT.out x.2
                have e4 : pre.length < l0.length := hlt
                rw [houtl, List.length_append]
                rw [List.length_map] at e1
                omega
              have hbW : Below wr.heap.size wr w' := hbq.trans (HB.out.mono hbq.size)
              rw [← houtl] at g5
              have j4 := boxed_below g4 hbW
              have j5 := Kd.R_below g5 hbW
              have hd : Below w'.heap.size w' w'.drew := (Below.refl _ w').drew
              have hy0 : w'.drew.cell? ⟨w.heap.size + 3, 0, none⟩ = some u := j4.cell
              have hy1 : w'.drew.cell? ⟨b17, 0, none⟩ = some (.int .i64 t1) := H18.out.cell0
              have hy2 : w'.drew.cell? ⟨b17, 1, none⟩ = some (.int .i64 t2) := H18.out.cell1
              have hy3 : w'.drew.cell? ⟨Bx, 0, none⟩ = some (.int .i64 x.1.1.f0) := (k6.below HB.out).cell0
              have hy4 : Boxed w'.drew (w.heap.size + 3) 111 u := boxed_below j4 hd
              have hy5 : Kd.R k101 101 w'.drew W0.heap.size (fun _ => True) u outl := Kd.R_below j5 hd
              have hy6 : W0.heap.size ≤ w'.drew.heap.size := Nat.le_trans g11 (Nat.le_trans hbW.size hd.size)
              have HO := Aside0.mk houtl
              clear houtl
              rename_i K13 h13
              refine h13 _ _ ?_
              clear h13 K13
              refine startIn_ (fun ⟨_, _, h⟩ => h) (by rfl) (n := 11) (S := fun w' => w'.cell? ⟨w.heap.size + 3, 0, none⟩ = some (u) ∧ w'.cell? ⟨b17, 0, none⟩ = some (.int .i64 t1) ∧ w'.cell? ⟨b17, 1, none⟩ = some (.int .i64 t2) ∧ w'.cell? ⟨Bx, 0, none⟩ = some (.int .i64 x.1.1.f0) ∧ Boxed w' (w.heap.size + 3) 111 u ∧ Kd.R k101 101 w' W0.heap.size (fun _ => True) u outl ∧ W0.heap.size ≤ w'.heap.size) (ds := [9, 10]) #[false, false, false, false, false, false, false, false, false, false, false] (by kernel_rfl) rfl rfl ⟨hy0, hy1, hy2, hy3, hy4, hy5, hy6⟩ (fun hHeld => ?_)
              refine pz (i := 2) (N := some 66) (zA 11 4) rfl rfl (by kernel_rfl) ?_
              refine take_ (i := 0) (N := some 64) (v := ?_) (a' := ?_) #[true, false, true, false, false, false, false, false, false, false, false] rfl rfl (by kernel_rfl) (fun _ _ _ h => h) (Or.inl ⟨by rfl, ?_⟩) hHeld ?_ ?_
              rotate_left
              · rintro w' ⟨s0, s1, s2, s3, s4, s5, s6⟩
                go_simp
                with_reducible rfl
              rotate_left
              · simp only [Act.put, List.setIfInBounds_toArray, List.set_cons_zero, List.set_cons_succ, i64_w, i32_w]
                rfl
              refine take_ (i := 1) (N := some 65) (v := ?_) (a' := ?_) #[true, true, true, false, false, false, false, false, false, false, false] rfl rfl (by kernel_rfl) (fun _ _ _ h => h) (Or.inl ⟨by rfl, ?_⟩) hHeld ?_ ?_
              rotate_left
              · rintro w' ⟨s0, s1, s2, s3, s4, s5, s6⟩
                go_simp
                with_reducible rfl
              rotate_left
              · simp only [Act.put, List.setIfInBounds_toArray, List.set_cons_zero, List.set_cons_succ, i64_w, i32_w]
                rfl
              refine take_ (i := 3) (N := some 67) (v := ?_) (a' := ?_) #[true, true, true, true, false, false, false, false, false, false, false] rfl rfl (by kernel_rfl) (fun _ _ _ h => h) (Or.inl ⟨by rfl, ?_⟩) hHeld ?_ ?_
              rotate_left
              · rintro w' ⟨s0, s1, s2, s3, s4, s5, s6⟩
                go_simp
                with_reducible rfl
              rotate_left
              · simp only [Act.put, List.setIfInBounds_toArray, List.set_cons_zero, List.set_cons_succ, i64_w, i32_w]
                rfl
              refine one_ (i := 4) (N := some 68) #[true, true, true, true, true, false, false, false, false, false, false] rfl rfl (by kernel_rfl) (by decide) (fun K hK => ?_)
              refine goes_ Try.func54 (by kernel_rfl) rfl #[.int .i64 x.1.1.f0] (by rfl) rfl rfl (by simp only [List.map_toArray, List.map_cons, List.map_nil]; rfl) ?_
              with_reducible refine (card_whole.calls _ _ _ _ rfl).mono ?_
              rintro e v6 ⟨rfl, hb6⟩
              refine ⟨_, rfl, ?_⟩
              refine hK.out _ _ ⟨(hb6.cell (World.block_lt_of_cell? _ _ hHeld.1)).trans hHeld.1, (hb6.cell (World.block_lt_of_cell? _ _ hHeld.2.1)).trans hHeld.2.1, (hb6.cell (World.block_lt_of_cell? _ _ hHeld.2.2.1)).trans hHeld.2.2.1, (hb6.cell (World.block_lt_of_cell? _ _ hHeld.2.2.2.1)).trans hHeld.2.2.2.1, boxed_below hHeld.2.2.2.2.1 hb6, Kd.R_below hHeld.2.2.2.2.2.1 hb6, Nat.le_trans hHeld.2.2.2.2.2.2 hb6.size⟩ (fun hHeld => ?_)
              clear hK K
              refine norm_ (a' := ?_) ?_ ?_
              rotate_left
              · show Act.put _ (some 68) _ = _
                simp only [Act.put, List.setIfInBounds_toArray, List.set_cons_zero, List.set_cons_succ, i64_w, i32_w]
                rfl
              refine one_ (i := 5) (N := some 69) #[true, true, true, true, true, true, false, false, false, false, false] rfl rfl (by kernel_rfl) (by decide) (fun K hK => ?_)
              refine value_ (w1 := ?_) (v := ?_) (by rfl) rfl ?_ ?_
              rotate_left 2
              · go_simp
                constructor
                · rfl
                · rfl
              refine hK.out _ _ ⟨((Below.alloc (Below.refl _ _) (Nat.le_refl _) _).cell (World.block_lt_of_cell? _ _ hHeld.1)).trans hHeld.1, ((Below.alloc (Below.refl _ _) (Nat.le_refl _) _).cell (World.block_lt_of_cell? _ _ hHeld.2.1)).trans hHeld.2.1, ((Below.alloc (Below.refl _ _) (Nat.le_refl _) _).cell (World.block_lt_of_cell? _ _ hHeld.2.2.1)).trans hHeld.2.2.1, ((Below.alloc (Below.refl _ _) (Nat.le_refl _) _).cell (World.block_lt_of_cell? _ _ hHeld.2.2.2.1)).trans hHeld.2.2.2.1, boxed_below hHeld.2.2.2.2.1 (Below.alloc (Below.refl _ _) (Nat.le_refl _) _), Kd.R_below hHeld.2.2.2.2.2.1 (Below.alloc (Below.refl _ _) (Nat.le_refl _) _), Nat.le_trans hHeld.2.2.2.2.2.2 (Below.alloc (Below.refl _ _) (Nat.le_refl _) _).size⟩ (fun hHeld => ?_)
              clear hK K
              refine norm_ (a' := ?_) ?_ ?_
              rotate_left
              · show Act.put _ (some 69) _ = _
                simp only [Act.put, List.setIfInBounds_toArray, List.set_cons_zero, List.set_cons_succ, i64_w, i32_w]
                rfl
              refine one_ (i := 6) (N := some 70) #[true, true, true, true, true, true, true, false, false, false, false] rfl rfl (by kernel_rfl) (by decide) (fun K hK => ?_)
              have hlit := lit101 v6 x.1.1.f0 1
              refine goes_ Try.func76 (by kernel_rfl) rfl #[.agg #[.int .i64 t1, .int .i64 t2], .slice (some ⟨v6.heap.size, 0, none⟩) 1 1] (by rfl) rfl rfl (by simp only [List.map_toArray, List.map_cons, List.map_nil]; rfl) ?_
              with_reducible refine (plus1 k _ _ (some ⟨v6.heap.size, 0, none⟩) x.1.1.f0 1 p1 p2 _ hlit hp).mono ?_
              rintro e v8 ⟨rfl, hb8⟩
              refine ⟨_, rfl, ?_⟩
              refine hK.out _ _ ⟨(hb8.cell (World.block_lt_of_cell? _ _ hHeld.1)).trans hHeld.1, (hb8.cell (World.block_lt_of_cell? _ _ hHeld.2.1)).trans hHeld.2.1, (hb8.cell (World.block_lt_of_cell? _ _ hHeld.2.2.1)).trans hHeld.2.2.1, (hb8.cell (World.block_lt_of_cell? _ _ hHeld.2.2.2.1)).trans hHeld.2.2.2.1, boxed_below hHeld.2.2.2.2.1 hb8, Kd.R_below hHeld.2.2.2.2.2.1 hb8, Nat.le_trans hHeld.2.2.2.2.2.2 hb8.size⟩ (fun hHeld => ?_)
              clear hK K
              refine norm_ (a' := ?_) ?_ ?_
              rotate_left
              · show Act.put _ (some 70) _ = _
                simp only [Act.put, List.setIfInBounds_toArray, List.set_cons_zero, List.set_cons_succ, i64_w, i32_w]
                rfl
              refine one_ (i := 7) (N := some 71) #[true, true, true, true, true, true, true, true, false, false, false] rfl rfl (by kernel_rfl) (by decide) (fun K hK => ?_)
              refine goes_ Try.func72 (by kernel_rfl) rfl #[.agg #[.int .i64 p1, .int .i64 p2]] (by rfl) rfl rfl (by simp only [List.map_toArray, List.map_cons, List.map_nil]; rfl) ?_
              with_reducible refine (card_ratio_around.calls _ _ q1 q2 _ hq).mono ?_
              rintro e v9 ⟨rfl, hb9⟩
              refine ⟨_, rfl, ?_⟩
              refine hK.out _ _ ⟨(hb9.cell (World.block_lt_of_cell? _ _ hHeld.1)).trans hHeld.1, (hb9.cell (World.block_lt_of_cell? _ _ hHeld.2.1)).trans hHeld.2.1, (hb9.cell (World.block_lt_of_cell? _ _ hHeld.2.2.1)).trans hHeld.2.2.1, (hb9.cell (World.block_lt_of_cell? _ _ hHeld.2.2.2.1)).trans hHeld.2.2.2.1, boxed_below hHeld.2.2.2.2.1 hb9, Kd.R_below hHeld.2.2.2.2.2.1 hb9, Nat.le_trans hHeld.2.2.2.2.2.2 hb9.size⟩ (fun hHeld => ?_)
              clear hK K
              refine norm_ (a' := ?_) ?_ ?_
              rotate_left
              · show Act.put _ (some 71) _ = _
                simp only [Act.put, List.setIfInBounds_toArray, List.set_cons_zero, List.set_cons_succ, i64_w, i32_w]
                rfl
              refine one_ (i := 8) (N := some 72) #[true, true, true, true, true, true, true, true, true, false, false] rfl rfl (by kernel_rfl) (by decide) (fun K hK => ?_)
              have HR9 := hHeld.2.2.2.2.2.1
              have HB9 := hHeld.2.2.2.2.1
              have HS9 := hHeld.2.2.2.2.2.2
              have nr9 : ∀ b, b < W0.heap.size → some b ≠ u.ownBlock := fun b hb e => by have := own_base (Kd.R_own HR9).choose_spec b e.symm; omega
              refine value_ (w1 := ?_) (v := ?_) (by rfl) rfl ?_ ?_
              rotate_left 2
              · go_simp
                constructor
                · rfl
                · rfl
              refine hK.out _ _ ⟨((Below.alloc (Below.refl _ _) (Nat.le_refl _) _).cell (World.block_lt_of_cell? _ _ hHeld.1)).trans hHeld.1, ((Below.alloc (Below.refl _ _) (Nat.le_refl _) _).cell (World.block_lt_of_cell? _ _ hHeld.2.1)).trans hHeld.2.1, ((Below.alloc (Below.refl _ _) (Nat.le_refl _) _).cell (World.block_lt_of_cell? _ _ hHeld.2.2.1)).trans hHeld.2.2.1, ((Below.alloc (Below.refl _ _) (Nat.le_refl _) _).cell (World.block_lt_of_cell? _ _ hHeld.2.2.2.1)).trans hHeld.2.2.2.1, boxed_below hHeld.2.2.2.2.1 (Below.alloc (Below.refl _ _) (Nat.le_refl _) _), Kd.R_below hHeld.2.2.2.2.2.1 (Below.alloc (Below.refl _ _) (Nat.le_refl _) _), Nat.le_trans hHeld.2.2.2.2.2.2 (Below.alloc (Below.refl _ _) (Nat.le_refl _) _).size⟩ (fun hHeld => ?_)
              clear hK K
              refine norm_ (a' := ?_) ?_ ?_
              rotate_left
              · show Act.put _ (some 72) _ = _
                simp only [Act.put, List.setIfInBounds_toArray, List.set_cons_zero, List.set_cons_succ, i64_w, i32_w]
                rfl
              refine last_ (i := 9) (N := some 73) #[true, true, true, true, true, true, true, true, true, true, false] rfl rfl (by kernel_rfl) (by decide) (fun K hK => ?_)
              refine Kd.R_append_step k101 (w0 := v9) W0.heap.size (by rfl) (.tmp 64) (.tmp 72) 111 101 (.agg #[.int .i64 0, .int .i64 0]) 16 rfl Try.underlying111 info101 rfl (by decide) (by decide) u outl ⟨q1, q2⟩ [.int .i64 q1, .int .i64 q2] (fun _ => True) (fun _ => False) rfl rfl (k101_mkM _ _ _ _) (fun _ h => h.elim) (fun _ _ => trivial) HR9 (Below.refl _ _) HS9 HL9 ?_
              intro u2 v10 hR10 hB10 hg10 _
              obtain ⟨A10, c10, rfl⟩ := Kd.R_slice hR10
              have hb10 : Boxed v10 (w.heap.size + 3) 111 u := HB9.kept hg10 (nr9 _ (by omega))
              have hc10 := hb10.cell
              have hf10 := hb10.frozen
              refine hK.out _ _ ?_
              clear hK K
              refine norm_ (a' := ?_) ?_ ?_
              rotate_left
              · show Act.put _ (some 73) _ = _
                simp only [Act.put, List.setIfInBounds_toArray, List.set_cons_zero, List.set_cons_succ, i64_w, i32_w]
                rfl
              refine last_ (i := 10) (N := none) #[true, true, true, true, true, true, true, true, true, true, true] rfl rfl (by kernel_rfl) (by decide) (fun K hK => ?_)
              refine skip_ (w1 := ?_) (by rfl) rfl ?_ ?_
              rotate_left
              · go_simp
                rfl
              refine hK.out _ _ ?_
              clear hK K
              refine done_ (by kernel_rfl) ?_
              rw [show (outl ++ [(⟨q1, q2⟩ : S101)]).length = outl.length + 1 by simp] at hR10
              have hbx : Below wr.heap.size wr v9 := (((((hbW.tr hd).tr hb6).al _).tr hb8).tr hb9)
              have hst := grownBy_setCell' v10 (w.heap.size + 3) (.slice A10 (outl.length + 1) c10)
              have hbx1 : Below w.heap.size v9 (v10.setCell ⟨w.heap.size + 3, 0, none⟩ (.slice A10 (outl.length + 1) c10)) := ((hB10.mono (by omega))).setCell (p := ⟨w.heap.size + 3, 0, none⟩) (by simp) _
              have hz := fun (b : Nat) (hb : b < W0.heap.size) (hne : b ≠ w.heap.size + 3) => (show some b ≠ some (w.heap.size + 3) by simpa using hne)
              have r1' := ((boxed_below g1 hbx).kept hg10 (nr9 _ (by omega))).kept hst (hz _ (by omega) (by omega))
              have r2' := ((boxed_below g2 hbx).kept hg10 (nr9 _ (by omega))).kept hst (hz _ (by omega) (by omega))
              have r3' := ((boxed_below g3 hbx).kept hg10 (nr9 _ (by omega))).kept hst (hz _ (by omega) (by omega))
              have r4' := hb10.set (.slice A10 (outl.length + 1) c10)
              have r5' := R_setLow hR10 (p := ⟨w.heap.size + 3, 0, none⟩) (by simp; omega) (.slice A10 (outl.length + 1) c10)
              have r6' := box2_set (b := w.heap.size + 3) (v := .slice A10 (outl.length + 1) c10) (by omega) (box2_grown (g6.below hbx) HR9 hg10)
              have r7' := box2_set (b := w.heap.size + 3) (v := .slice A10 (outl.length + 1) c10) (by omega) (box2_grown (g7.below hbx) HR9 hg10)
              have hko : KeepsOthers v9 (v10.setCell ⟨w.heap.size + 3, 0, none⟩ (.slice A10 (outl.length + 1) c10)) := (KeepsOthers.of_grownBy hg10 fun j o ej hj => by
                obtain ⟨cur, pp, ho'⟩ := R_row HR9 j ej
                rw [hj] at ho'; cases ho'; rfl).trans (KeepsOthers.setCell _ _ _)
              have hsz5 : v9.heap.size ≤ v10.heap.size := hg10.size
              have hblk : (v10.setCell ⟨w.heap.size + 3, 0, none⟩ (.slice A10 (outl.length + 1) c10)).heap[w.heap.size + 4]? = v9.heap[w.heap.size + 4]? :=
                (hst.block _ (by omega) (by simp)).trans (hg10.block _ (by omega) (nr9 _ (by omega)))
              gi_wp2
              go_roundw
              case rel =>
                refine ⟨i + 1, ys ++ [⟨q1, q2⟩], .slice A10 (outl.length + 1) c10, ?_, ?_, by omega, fun _ => by omega, r1', r2', r3', r4', ?_, r6', r7', (g8.trans (hbx.mono g8.size)).trans hbx1, (g9.trans (keepsFrom_below hbx)).trans (keepsFrom_of_others hko), g10.trans (KpS_mk ((hbx.mono g8.size).trans hbx1) (hblk.trans (hbx.block _ (by omega)))), ?_⟩
                · congr 1
                  have := HMI.out
                  omega
                · rw [HL0.out, ← HLE.out]
                · rw [← List.append_assoc, ← HO.out]
                  exact r5'
                · exact Nat.le_trans HS9 (Nat.le_trans hsz5 hst.size)
              case measure => simp [intOf]; omega
      · gi_wp2
        have hNe : i = solN mag x.1 := by
          have := HNI.out
          rcases Nat.lt_or_ge i (solN mag x.1) with h | h
          · exact absurd (this.2 h) (by omega)
          · omega
        have hss : segSols k mag x.1 = some ys := by unfold segSols; rw [← hNe]; exact HYS.out
        refine ⟨g9, g10, ⟨g1, g2, g3, u, g4, ?_⟩, ?_, g8, g11⟩
        · rw [List.map_append, List.map_cons, List.map_nil, solsAll_snoc k mag _ _ hss]
          exact g5
        · intro y hy
          rcases List.mem_append.1 hy with hy | hy
          · exact h6 y hy
          · obtain rfl : y = x := by simpa using hy
            rw [HFL.out]
            refine decide_eq_false ?_
            rintro ⟨e1, e2⟩
            exact HNF.out (by omega) e1
  case done =>
    rintro D ys V hD hys ⟨⟨h1, h2, h3, v, h4, h5⟩, h6, h7, h8⟩ hK
    rw [hys] at h5
    have hno : (segs l0).any (flatHit mag) = false := by
      rw [List.any_eq_false]
      intro y hy
      rw [← hys] at hy
      obtain ⟨z, hz, rfl⟩ := List.mem_map.1 hy
      simp [h6 z hz]
    have h := H.out
    rw [hno, if_neg (by simp)] at h
    have hg2 : ((solsAll k mag (segs l0)).all okR && decide ((solsAll k mag (segs l0)).length ≤ 1000000)) = true := by
      cases hb : ((solsAll k mag (segs l0)).all okR && decide ((solsAll k mag (segs l0)).length ≤ 1000000)) with
      | true => rfl
      | false => rw [hb, if_neg (by simp)] at h; cases h
    rw [hg2, if_pos rfl] at h
    rw [Bool.and_eq_true, decide_eq_true_eq] at hg2
    injection h with h
    injection h with e1 e2
    subst e1 e2
    clear H
    have HT := Aside0.mk (okR_total hg2.1)
    have HL := Aside0.mk hg2.2
    clear hg2
    have hDl : D < V.heap.size := (Array.getElem?_eq_some_iff.1 hK).1
    have hc4 := h4.cell
    obtain ⟨A9, c9, rfl⟩ := Kd.R_slice h5
    have nr : ∀ b, b < W0.heap.size → some b ≠ (Value.slice A9 (solsAll k mag (segs l0)).length c9).ownBlock := fun b hb e => by have := own_base (Kd.R_own h5).choose_spec b e.symm; omega
    gi_wp2_with (refine ⟨trivial, ?_⟩; gi_at_call 91; refine (callsIn_wide.2 (sortR_calls W0.heap.size _ _ V HT.out HL.out (R101_flat h5))).mono ?_; rintro e V2 ⟨rfl, hs1, hs2⟩; have c4 := h4.kept hs2 (nr _ (by omega)); have c2 := h2.kept hs2 (nr _ (by omega)); have c3 := h3.kept hs2 (nr _ (by omega)); have hz4 := c4.cell; have hz2 := c2.cell; have hz3 := c3.cell; have hf2 := c2.frozen; have hf3 := c3.frozen)
    have hne : some D ≠ (Value.slice A9 (solsAll k mag (segs l0)).length c9).ownBlock := fun e => by
      obtain ⟨cur, p, hc⟩ := R_row h5 D e.symm
      rw [hc] at hK; cases hK
    have hD2 : ((V2.setCell ⟨w.heap.size + 1, 0, none⟩ (.slice A9 (solsAll k mag (segs l0)).length c9)).setCell ⟨w.heap.size + 2, 0, none⟩ (.bool true)).heap[D]? = some (.deferred (some [])) := by
      rw [Below.heap_setCell _ _ _ _ (by simp; omega), Below.heap_setCell _ _ _ _ (by simp; omega)]
      exact (hs2.block D hDl hne).trans hK
    refine ⟨by simp, .inl ⟨_, _, rfl, run_takeDeferred hD2, ?_⟩⟩
    have d2 := ((c2.set (.slice A9 (solsAll k mag (segs l0)).length c9)).kept (grownBy_setCell' _ (w.heap.size + 2) (.bool true)) (by simp)).cell
    have d3 := ((c3.kept (grownBy_setCell' _ (w.heap.size + 1) (.slice A9 (solsAll k mag (segs l0)).length c9)) (by simp)).set (.bool true)).cell
    have hnr := fun (b : Nat) (hb : b < W0.heap.size) => (nr b hb).symm
    have hs3 := (hs1.kept (grownBy_setCell' _ (w.heap.size + 1) (.slice A9 (solsAll k mag (segs l0)).length c9)) (.inr (hnr _ (by omega)))).kept (grownBy_setCell' _ (w.heap.size + 2) (.bool true)) (.inr (hnr _ (by omega)))
    refine ⟨_, res64 (below_cell hD2 d2) (below_cell hD2 d3), _, rfl, ?_, ?_⟩
    · refine R101_of ?_
      rw [List.length_mergeSort]
      exact own_weaken (ownsRow_putObj hs3 _ hD2 rfl) hB0.size
    · have hb2 : Below w.heap.size w V2 := h7.grown hs2 h7.size fun j ej => by
        have := own_base (Kd.R_own h5).choose_spec j ej
        omega
      exact ((hb2.setCell (p := ⟨w.heap.size + 1, 0, none⟩) (by simp) _).setCell (p := ⟨w.heap.size + 2, 0, none⟩) (by simp) _).trans (belowK_b (w := W0) hB0.size _ D _ _ hD hD2 rfl rfl)
  case stop =>
    rintro D c pre V hD hpre ⟨rfl, ⟨x, hx, hfl⟩, h2, h3, h4⟩ hK
    have hyes : (segs l0).any (flatHit mag) = true := List.any_eq_true.2 ⟨x.1, x.2, hfl⟩
    have h := H.out
    rw [hyes, if_pos rfl] at h
    injection h with h
    injection h with e1 e2
    subst e1 e2
    clear H
    refine wpIn_ret ?_
    refine ⟨by simp, .inl ⟨_, _, rfl, run_takeDeferred hK, ?_⟩⟩
    have g2 := h2.cell
    have g3 := h3.cell
    refine ⟨_, res64 (below_cell hK g2) (below_cell hK g3), .slice none 0 0, rfl, Kd.R_nil _ _ _ _ _, ?_⟩
    exact h4.trans (belowK_b (w := W0) hB0.size _ D _ _ hD hK rfl rfl)
end Go.Proofs.Ytccjefoejjnccaa.H
