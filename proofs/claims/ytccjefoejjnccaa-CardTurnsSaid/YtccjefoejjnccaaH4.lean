/- What is proved here: slices.SortFunc leaves a sorted list in the call's own row, for fractions and for points whose order is total; no other condition but the row's length. -/
import Derived.Test.YtccjefoejjnccaaH3
import Derived.Test.YtccjefoejjnccaaShelf
import Derived.Shelf.Abstract
namespace Go.Proofs.Ytccjefoejjnccaa.H
open Go.RowKit Go.Shelf Go.Sort Go.Proofs.Ytccjefoejjnccaa.C Go.Proofs.YtccjefoejjnccaaH Go.Proofs.YtccjefoejjnccaaW.PrintWords Go.Proofs.YtccjefoejjnccaaW.PrintLast Go.Proofs.YtccjefoejjnccaaW.PrintMore
set_option linter.unusedSimpArgs false
set_option linter.unusedVariables false
theorem holds_id {w : World} {g : Nat} {cur : Array Value} {e : TypeId} {F : List Value} (hb : w.heap[g]? = some (.cells cur e (0, 0))) (ht : cur.toList.take F.length = F) : Holds id w g 0 F.toArray := by
  intro j hj
  have hj' : j < F.length := by simpa using hj
  refine ⟨?_, by simp [World.frozen?, hb]⟩
  have h1 : (cur.toList.take F.length)[j]? = F[j]? := by rw [ht]
  rw [List.getElem?_take_of_lt hj'] at h1
  simp only [World.cell?, hb, Nat.zero_add, Option.isSome_none, Bool.false_eq_true, if_false]
  rw [← Array.getElem?_toList, h1]
  simp [hj']
theorem heap_sorted_id {w : World} {g n : Nat} {os : Array Obj} {cur : Array Value} {e : TypeId} {fr : Nat × Nat} (F : Array Value) (hb : w.heap[g]? = some (.cells cur e fr)) :
    (grow (putRow id (Sort.ahead w n) g 0 F) os).heap[g]? = some (.cells (putCells id 0 F cur) e fr) := by
  have hg : g < w.heap.size := (Array.getElem?_eq_some_iff.1 hb).1
  rw [heap_grow_old _ _ (by simpa using hg)]
  simp [putRow, mapBlock, Sort.ahead, Array.getElem?_modify, hb, onCells]
theorem grownBy_sorted_id {w : World} {g n : Nat} {os : Array Obj} (F : Array Value) : w.grownBy (grow (putRow id (Sort.ahead w n) g 0 F) os) (some g) := by
  refine ⟨rfl, rfl, rfl, by simp, fun k hk hne => ?_⟩
  rw [heap_grow_old _ _ (by simpa using hk)]
  have : g ≠ k := fun e => hne (by rw [e])
  simp [putRow, mapBlock, Sort.ahead, Array.getElem?_modify, this]
theorem take_putCells_id (cur : Array Value) (F : List Value) (h : F.length ≤ cur.size) : (putCells id 0 F.toArray cur).toList.take F.length = F := by
  apply List.ext_getElem?
  intro j
  by_cases hj : j < F.length
  · rw [List.getElem?_take_of_lt hj, Array.getElem?_toList]
    simp [putCells, hj, show j < cur.size by omega]
  · rw [List.getElem?_take_eq_none (by omega), List.getElem?_eq_none (by omega)]
theorem flat2 {α : Type} [Inhabited α] (enc : α → List Value) (hk : ∀ x, (enc x).length = 2) (xs : List α) : flatK enc 2 xs.toArray = (xs.flatMap enc).toArray := by
  have hl : ∀ ys : List α, (ys.flatMap enc).length = ys.length * 2 := by
    intro ys; induction ys with
    | nil => rfl
    | cons y ys ih => simp only [List.flatMap_cons, List.length_append, hk, ih, List.length_cons]; omega
  apply Array.ext
  · simp [hl]
  · intro t h1 h2
    have ht : t < xs.length * 2 := by simpa using h1
    simp only [flatK, Array.getElem_map, Array.getElem_range]
    have hget : ∀ (ys : List α) (t : Nat) (h : t < ys.length * 2), (ys.flatMap enc)[t]? = some ((enc ys[t / 2]!)[t % 2]!) := by
      intro ys
      induction ys with
      | nil => intro t h; simp at h
      | cons y ys ih =>
        intro t h
        rw [List.flatMap_cons]
        by_cases h2 : t < 2
        · rw [List.getElem?_append_left (by rw [hk]; exact h2)]
          have e1 : t / 2 = 0 := by omega
          have e2 : t % 2 = t := by omega
          rw [e1, e2]
          have : t < (enc y).length := by rw [hk]; exact h2
          simp [this]
        · rw [List.getElem?_append_right (by rw [hk]; omega), hk, ih (t - 2) (by simp at h; omega)]
          have e1 : t / 2 = (t - 2) / 2 + 1 := by omega
          have e2 : t % 2 = (t - 2) % 2 := by omega
          rw [e1, e2]
          simp
    have := hget xs t ht
    have hx : (xs.flatMap enc)[t]? = some ((xs.flatMap enc).toArray[t]) := by simp at h2 ⊢
    rw [hx] at this
    have h3 := Option.some.inj this
    rw [h3]
    simp
theorem size2 {α : Type} (enc : α → List Value) (hk : ∀ x, (enc x).length = 2) (xs : List α) : (xs.flatMap enc).length = xs.length * 2 := by
  induction xs with
  | nil => rfl
  | cons y ys ih => simp only [List.flatMap_cons, List.length_append, hk, ih, List.length_cons]; omega
/-- Behind the sort the same slice owns the sorted list. -/
theorem ownsRow_sorted2 {α : Type} [Inhabited α] (enc : α → List Value) (hk : ∀ x, (enc x).length = 2) {w : World} {base g cap n : Nat} {e : TypeId} {os : Array Obj} {cur : Array Value} {ss ts : List α} (hl : ts.length = ss.length) (hbase : base ≤ g) (hb : w.heap[g]? = some (.cells cur e (0, 0)))
    (h1 : ss.length ≤ cap) (h2 : cap ≤ maxLen) (h3 : cur.size = cap * 2) :
    (sortWorldK enc 2 w g 0 n ts.toArray os).ownsRow base e 2 (.slice (some ⟨g, 0, none⟩) ss.length cap) ss.length (ts.flatMap enc) := by
  unfold sortWorldK putRowK
  rw [flat2 enc hk]
  refine ⟨by rw [size2 enc hk, hl], .inr ⟨g, cap, _, rfl, hbase, heap_sorted_id _ hb, h1, h2, by simp [putCells, h3], ?_⟩⟩
  rw [← hl, ← size2 enc hk]
  exact take_putCells_id cur _ (by rw [size2 enc hk]; omega)
theorem grownBy_sorted2 {α : Type} [Inhabited α] (enc : α → List Value) {w : World} {g n : Nat} {os : Array Obj} (d : Array α) : w.grownBy (sortWorldK enc 2 w g 0 n d os) (some g) := grownBy_sorted_id _
theorem cmp3_eq (a b : Int) : cmp3 a b = Lib.compareInt a b := rfl
def keyR (x y : S101) : Int := cmp3 (wrap64 (x.f0 * y.f1)) (wrap64 (y.f0 * x.f1))
def keyP (x y : S55) : Int := cmp3 x.f0 y.f0
set_option maxHeartbeats 1000000 in
theorem cmp86 (x y : S101) (W : World) : Calls Try.prog 86 #[.agg #[.int .i64 x.f0, .int .i64 x.f1], .agg #[.int .i64 y.f0, .int .i64 y.f1]] W fun e w' => e = .returned (.int .i64 (keyR x y)) ∧ ∃ q os', w' = grow (W.drewN q) os' := by
  have hcon := fun W' => AnyG.cmp_Compare_int Try.cmpInt (wrap64 (x.f0 * y.f1)) (wrap64 (y.f0 * x.f1)) W'
  change ∀ W', Calls Try.prog 75 _ _ _ at hcon
  rw [← cmp3_eq] at hcon
  change ∀ W', Calls Try.prog 75 _ _ (fun e w' => e = .returned (.int .i64 (keyR x y)) ∧ w' = W') at hcon
  generalize keyR x y = r at hcon ⊢
  go_enter Try.func86, Try.ntmps86
  go_wp2_with (go_at_call 75; refine (hcon _).mono ?_; rintro e w' ⟨rfl, rfl⟩)
  go_ret
  exact ⟨rfl, 0, _, by rw [alloc_eq_grow, alloc_eq_grow, grow_grow]; rfl⟩
set_option maxHeartbeats 1000000 in
theorem cmp74 (x y : S55) (W : World) : Calls Try.prog 74 #[.agg #[.int .i64 x.f0, .int .i64 x.f1], .agg #[.int .i64 y.f0, .int .i64 y.f1]] W fun e w' => e = .returned (.int .i64 (keyP x y)) ∧ ∃ q os', w' = grow (W.drewN q) os' := by
  have hcon := fun W' => AnyG.cmp_Compare_int Try.cmpInt x.f0 y.f0 W'
  change ∀ W', Calls Try.prog 75 _ _ _ at hcon
  rw [← cmp3_eq] at hcon
  change ∀ W', Calls Try.prog 75 _ _ (fun e w' => e = .returned (.int .i64 (keyP x y)) ∧ w' = W') at hcon
  generalize keyP x y = r at hcon ⊢
  go_enter Try.func74, Try.ntmps74
  go_wp2_with (go_at_call 75; refine (hcon _).mono ?_; rintro e w' ⟨rfl, rfl⟩)
  go_ret
  exact ⟨rfl, 0, _, by rw [alloc_eq_grow, alloc_eq_grow, grow_grow]; rfl⟩
def encR (x : S101) : List Value := [.int .i64 x.f0, .int .i64 x.f1]
def encP (x : S55) : List Value := [.int .i64 x.f0, .int .i64 x.f1]
def ltR (x y : S101) : Bool := decide (keyR x y < 0)
def ltP (x y : S55) : Bool := decide (keyP x y < 0)
/-- An order on a list, total. -/
structure TotalOn {α : Type} (lt : α → α → Bool) (xs : List α) : Prop where
  irrefl : ∀ x ∈ xs, lt x x = false
  trans : ∀ x ∈ xs, ∀ y ∈ xs, ∀ z ∈ xs, lt x y = true → lt y z = true → lt x z = true
  ntrans : ∀ x ∈ xs, ∀ y ∈ xs, ∀ z ∈ xs, lt x y = false → lt y z = false → lt x z = false
  total : ∀ x ∈ xs, ∀ y ∈ xs, lt x y = false → lt y x = false → x = y
theorem TotalOn.swo {α : Type} {lt : α → α → Bool} {xs : List α} (h : TotalOn lt xs) : SWO (fun (x y : { x // x ∈ xs }) => lt x.1 y.1) :=
  ⟨fun x => h.irrefl x.1 x.2, fun x y z => h.trans x.1 x.2 y.1 y.2 z.1 z.2, fun x y z => h.ntrans x.1 x.2 y.1 y.2 z.1 z.2⟩
theorem flat_attach {α : Type} (enc : α → List Value) (xs : List α) : (xs.attach).flatMap (fun x => enc x.1) = xs.flatMap enc := by
  conv => rhs; rw [← List.attach_map_subtype_val xs]
  rw [List.flatMap_map]
theorem sort_attach {α : Type} (lt : α → α → Bool) (xs : List α) : (xs.attach.mergeSort (fun x y => !lt y.1 x.1)).map (·.1) = xs.mergeSort (fun x y => !lt y x) := by
  rw [List.map_mergeSort (s := fun x y => !lt y x) (fun a _ b _ => rfl), List.attach_map_subtype_val]
theorem flat_sorted {α : Type} (enc : α → List Value) (lt : α → α → Bool) (xs : List α) : (xs.attach.mergeSort (fun x y => !lt y.1 x.1)).flatMap (fun x => enc x.1) = (xs.mergeSort (fun x y => !lt y x)).flatMap enc := by
  conv => rhs; rw [← sort_attach lt xs, List.flatMap_map]
set_option maxHeartbeats 1000000 in
theorem sortR_calls (base : Nat) (v : Value) (xs : List S101) (w : World) (hT : TotalOn ltR xs) (hlen : xs.length ≤ 1000000) (hrow : w.ownsRow base 101 2 v xs.length (xs.flatMap encR)) :
    Calls Try.prog 91 #[v, .func (.func 86) #[] #[]] w fun e w' => e = .returned (.tuple #[]) ∧ w'.ownsRow base 101 2 v xs.length ((xs.mergeSort (fun x y => !ltR y x)).flatMap encR) ∧ w.grownBy w' v.ownBlock := by
  rcases hrow.2 with ⟨rfl, h0⟩ | ⟨g, cap, cur, rfl, hbase, hb, h1, h2, h3, h4⟩
  · have hx : xs = [] := List.eq_nil_of_length_eq_zero h0
    subst hx
    have hcon := AnyF.slices_SortFunc_none Try.sortR none 0 (.func (.func 86) #[] #[]) w
    change Calls Try.prog 91 _ _ _ at hcon
    refine hcon.mono ?_
    rintro e w' ⟨rfl, rfl⟩
    exact ⟨rfl, by simpa using hrow, ⟨rfl, rfl, rfl, Nat.le_refl _, fun _ _ _ => rfl⟩⟩
  · cases xs with
    | nil =>
      have hcon := AnyF.slices_SortFunc_none Try.sortR (some ⟨g, 0, none⟩) cap (.func (.func 86) #[] #[]) w
      change Calls Try.prog 91 _ _ _ at hcon
      refine hcon.mono ?_
      rintro e w' ⟨rfl, rfl⟩
      exact ⟨rfl, by simpa using hrow, ⟨rfl, rfl, rfl, Nat.le_refl _, fun _ _ _ => rfl⟩⟩
    | cons x0 xt =>
    have hi : Inhabited { x // x ∈ x0 :: xt } := ⟨⟨x0, by simp⟩⟩
    have eg : ∀ args w, (callFunc 86 args).run Try.prog w = .ok (.enter 86 args) w := enters_of Try.func86 (by kernel_rfl) rfl
    have hH : HoldsK (fun x : { x // x ∈ x0 :: xt } => encR x.1) 2 w g 0 ((x0 :: xt).attach.toArray) := by
      unfold HoldsK
      rw [flat2 _ (fun _ => rfl), flat_attach]
      refine holds_id hb ?_
      rw [size2 encR (fun _ => rfl)]
      exact h4
    have hcon := AnyQ.slices_SortFunc_total Try.sortR 2 Try.isAgg101 Try.sizeOf101 (fun x : { x // x ∈ x0 :: xt } => encR x.1) (fun _ => rfl) (fun x v hv => by simp [encR] at hv; rcases hv with rfl | rfl <;> rfl)
      (fun x y => keyR x.1 y.1) hT.swo 86 #[] g 0 cap ((x0 :: xt).attach.toArray) w eg (fun m os dk hs x y => cmp86 x.1 y.1 _) hH (Array.getElem?_eq_some_iff.1 hb).1 (by simp at hlen ⊢; omega)
      (fun x y h1 h2 => Subtype.ext (hT.total x.1 x.2 y.1 y.2 h1 h2))
    change Calls Try.prog 91 _ _ _ at hcon
    have hsz : ((x0 :: xt).attach.toArray).size = (x0 :: xt).length := by simp
    rw [hsz] at hcon
    refine hcon.mono ?_
    rintro e w' ⟨rfl, n, os, rfl⟩
    refine ⟨rfl, ?_, grownBy_sorted2 _ _⟩
    rw [← flat_sorted]
    have := ownsRow_sorted2 (fun x : { x // x ∈ x0 :: xt } => encR x.1) (fun _ => rfl) (base := base) (n := n) (os := os) (ss := (x0 :: xt).attach) (ts := (x0 :: xt).attach.mergeSort (fun x y => !ltR y.1 x.1)) (by simp) hbase hb (by simpa using h1) h2 h3
    rw [List.length_attach] at this
    exact this
set_option maxHeartbeats 1000000 in
/-- slices.SortFunc at a card: its walk over the sort's own contracts. -/
theorem sort73 {α : Type} [Inhabited α] (enc : α → List Value) (hk : ∀ x, (enc x).length = 2) (h1 : ∀ x, ∀ v ∈ enc x, v.oneCell' = true) (cf : α → α → Int) (hO : SWO (ltOf cf)) (g : Nat) (cb : Array Value) (blk off cap : Nat) (d : Array α) (w : World)
    (eg : ∀ args w, (callFunc g args).run Try.prog w = .ok (.enter g args) w) (hcmp : CmpLays Try.prog g cb enc 2 cf blk off d.size w) (hH : HoldsK enc 2 w blk off d) (hblk : blk < w.heap.size) (hsz : d.size < 4611686018427387904) (hT : ∀ x y, (ltOf cf) x y = false → (ltOf cf) y x = false → x = y) :
    Calls Try.prog 73 #[.slice (some ⟨blk, off, none⟩) d.size cap, .func (.func g) #[] cb] w fun e w' =>
      e = .returned (.tuple #[]) ∧ ∃ n os, w' = sortWorldK enc 2 w blk off n (d.toList.mergeSort fun x y => !(ltOf cf) y x).toArray os := by
  have hlim : Lib.bitLen d.size < 4611686018427387904 := Nat.lt_of_le_of_lt (Lib.bitLen_le d.size 62 (by omega) (by omega)) (by omega)
  have hp := AnyQ.pdqsortCmpFunc_all Try.pdqP 2 Try.isAgg55 Try.sizeOf55 enc cf g cb hO blk off cap d w eg hcmp ⟨hk, h1, hH, hblk⟩ (d.size + 1) 0 d.size (Lib.bitLen d.size) d w (by omega) rfl (SWK.start hH) (Nat.zero_le _) (Nat.le_refl _) hsz hlim (Or.inl rfl)
  change Calls Try.prog 93 _ _ _ at hp
  have hl : Calls Try.prog 94 #[.int .u64 (d.size : Int)] w fun e w' => e = .returned (.int .i64 (Lib.bitLen d.size : Nat)) ∧ w' = w := by
    have h := Any.bits_Len (SlLaysF0.n15.bits Try.lenP) (d.size : Int) w (by omega) (by omega)
    rwa [Int.toNat_natCast] at h
  have hfin := pdq_sorts (ltOf cf) hO d 0 d.size (Lib.bitLen d.size) true true (Nat.zero_le _) (Nat.le_refl _) (Or.inl rfl)
  have huni := sorted_unique_holds hO hT d _ hfin.1 hfin.2
  have wr : IntKind.u64.wrap (d.size : Int) = d.size := by simp [IntKind.wrap, IntKind.bits, IntKind.signed]; omega
  have huni2 : pdq (ltOf cf) d 0 d.size (Lib.bitLen d.size) true true = (d.toList.mergeSort fun x y => !(ltOf cf) y x).toArray := by rw [← huni]
  rw [huni2] at hp
  clear hH hcmp hk h1 huni huni2 hfin
  go_enter Try.func73, Try.ntmps73
  go_wp2_with (first | (go_at_call 94; refine hl.mono ?_; rintro e w' ⟨rfl, rfl⟩) | (go_at_call 93; refine hp.mono ?_; rintro e w' ⟨rfl, n, os, rfl⟩))
  go_end0
  exact ⟨rfl, n, os, rfl⟩
theorem sort73_none (p : Option Addr) (cap : Nat) (fv : Value) (w : World) :
    Calls Try.prog 73 #[.slice p 0 cap, fv] w fun e w' => e = .returned (.tuple #[]) ∧ w' = w := by
  have hp := fun lim W => AnyF.pdqsortCmpFunc_none Try.pdqP p cap lim fv W
  change ∀ lim W, Calls Try.prog 93 _ _ _ at hp
  have hl : ∀ W, Calls Try.prog 94 #[.int .u64 0] W fun e w' => e = .returned (.int .i64 (Lib.bitLen 0 : Nat)) ∧ w' = W := fun W => by
    have h := Any.bits_Len (SlLaysF0.n15.bits Try.lenP) 0 W (by omega) (by omega)
    exact h
  have hb : Lib.bitLen 0 = 0 := by decide
  rw [hb] at hl
  go_enter Try.func73, Try.ntmps73
  go_wp2_with (first | (go_at_call 94; refine (hl _).mono ?_; rintro e w' ⟨rfl, rfl⟩) | (go_at_call 93; refine (hp _ _).mono ?_; rintro e w' ⟨rfl, rfl⟩))
  go_end0
  exact ⟨rfl, rfl⟩
set_option maxHeartbeats 1000000 in
theorem sortP_calls (base : Nat) (v : Value) (xs : List S55) (w : World) (hT : TotalOn ltP xs) (hlen : xs.length ≤ 1000000) (hrow : w.ownsRow base 55 2 v xs.length (xs.flatMap encP)) :
    Calls Try.prog 73 #[v, .func (.func 74) #[] #[]] w fun e w' => e = .returned (.tuple #[]) ∧ w'.ownsRow base 55 2 v xs.length ((xs.mergeSort (fun x y => !ltP y x)).flatMap encP) ∧ w.grownBy w' v.ownBlock := by
  rcases hrow.2 with ⟨rfl, h0⟩ | ⟨g, cap, cur, rfl, hbase, hb, h1, h2, h3, h4⟩
  · have hx : xs = [] := List.eq_nil_of_length_eq_zero h0
    subst hx
    refine (sort73_none none 0 (.func (.func 74) #[] #[]) w).mono ?_
    rintro e w' ⟨rfl, rfl⟩
    exact ⟨rfl, by simpa using hrow, ⟨rfl, rfl, rfl, Nat.le_refl _, fun _ _ _ => rfl⟩⟩
  · cases xs with
    | nil =>
      refine (sort73_none (some ⟨g, 0, none⟩) cap (.func (.func 74) #[] #[]) w).mono ?_
      rintro e w' ⟨rfl, rfl⟩
      exact ⟨rfl, by simpa using hrow, ⟨rfl, rfl, rfl, Nat.le_refl _, fun _ _ _ => rfl⟩⟩
    | cons x0 xt =>
    have hi : Inhabited { x // x ∈ x0 :: xt } := ⟨⟨x0, by simp⟩⟩
    have eg : ∀ args w, (callFunc 74 args).run Try.prog w = .ok (.enter 74 args) w := enters_of Try.func74 (by kernel_rfl) rfl
    have hH : HoldsK (fun x : { x // x ∈ x0 :: xt } => encP x.1) 2 w g 0 ((x0 :: xt).attach.toArray) := by
      unfold HoldsK
      rw [flat2 _ (fun _ => rfl), flat_attach]
      refine holds_id hb ?_
      rw [size2 encP (fun _ => rfl)]
      exact h4
    have hcon := sort73 (fun x : { x // x ∈ x0 :: xt } => encP x.1) (fun _ => rfl) (fun x v hv => by simp [encP] at hv; rcases hv with rfl | rfl <;> rfl)
      (fun x y => keyP x.1 y.1) hT.swo 74 #[] g 0 cap ((x0 :: xt).attach.toArray) w eg (fun m os dk hs x y => cmp74 x.1 y.1 _) hH (Array.getElem?_eq_some_iff.1 hb).1 (by simp at hlen ⊢; omega)
      (fun x y h1 h2 => Subtype.ext (hT.total x.1 x.2 y.1 y.2 h1 h2))
    have hsz : ((x0 :: xt).attach.toArray).size = (x0 :: xt).length := by simp
    rw [hsz] at hcon
    refine hcon.mono ?_
    rintro e w' ⟨rfl, n, os, rfl⟩
    refine ⟨rfl, ?_, grownBy_sorted2 _ _⟩
    rw [← flat_sorted]
    have := ownsRow_sorted2 (fun x : { x // x ∈ x0 :: xt } => encP x.1) (fun _ => rfl) (base := base) (n := n) (os := os) (ss := (x0 :: xt).attach) (ts := (x0 :: xt).attach.mergeSort (fun x y => !ltP y.1 x.1)) (by simp) hbase hb (by simpa using h1) h2 h3
    rw [List.length_attach] at this
    exact this
end Go.Proofs.Ytccjefoejjnccaa.H
